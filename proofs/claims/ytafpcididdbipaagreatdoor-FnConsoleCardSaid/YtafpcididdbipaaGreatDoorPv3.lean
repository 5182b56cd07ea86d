/- A verified evaluator of the program's form over pure values, part 3: what it tells of a function holds. -/
import Derived.Test.YtafpcididdbipaaGreatDoorPv2
import Derived.Carry
import Derived.Deep.AppendSrc
import Derived.Deep.Upon
import Derived.MapKept
import Derived.WideKeyPair
set_option linter.unusedSimpArgs false
set_option linter.unusedVariables false
noncomputable section
namespace Go.Pv
open List Int IntKind
variable {P:Program} {w w':World} {A A' Wr:Nat->Prop} {H:Nat->Value} {tm FP:Nat->Value} {S S' S1:St} {σ bU iB:Nat->Option Nat} {w0:World} {W0 Z:Nat->Prop} {a:Act} {own:Nat->Prop} {v:Value} {Θ:fA} {dst:Option Nat}
theorem YG {s:Nat} (l9:List (List Value)) (h:∀ c∈l9,c.length=s) (j:Nat) (hj:j<l9.length):(l9.flatten.drop (j*s)).take s=l9[j]:=by
 have h1:(l9.take j).flatten.length=j*s:=by rw[xU s (λc hc=>h c (List.mem_of_mem_take hc)),List.length_take,Nat.min_eq_left (by omega)]
 rw[EU l9 j hj,←h1,List.drop_left,←h (l9[j]) (List.getElem_mem hj),List.take_left]
theorem amG {t:Ty} {m:Md} {xs:List t.I} {l9:List (List Value)} {ow:Nat->Prop} {τ:Nat->Nat} (e:TypeId) (hl:l9.length=xs.length) (hM:∀ (j:Nat) (hj:j<xs.length),M w A H t m xs[j] (l9[j]'(by omega)) (λg=>ow g/\τ g=j) []) (du:∀ g,ow g->g<w.heap.size) (aqf:xs.length<=maxLen): M (w.alloc (.cells l9.flatten.toArray e)) (λg=>A g∨w.heap.size<=g) H (.sl t) (.o e none m) xs [.slice (some ⟨w.heap.size,0,none⟩) xs.length xs.length] (λg=>ow g∨g=w.heap.size) []:=by
 have lP:∀ c∈l9,c.length=t.size:=λc hc=>by obtain⟨j,hj,rfl⟩:=List.mem_iff_getElem.1 hc;exact(lQ t (hM j (by omega))).1
 simp only[M];refine .inr (.inr ⟨e,none,m,some ⟨w.heap.size,0,none⟩,xs.length,rfl,rfl,Nat.le_refl _,λh hh=>(by cases hh),.inr ⟨w.heap.size,l9.flatten.toArray,τ,rfl,.inr rfl,heap_alloc_new w _,?_,aqf,λj hj=>?_⟩⟩)
 ·rw[List.size_toArray,xU t.size lP,hl]
 rw[List.toList_toArray,YG l9 lP j (by omega)];refine aG (w:=w) ⟨λg _ hg=>heap_alloc_old w _ g hg,λg hg hx=>?_⟩ t (λg hg hl=>heap_alloc_old w _ g hl) (λg hg hl=>⟨.inl hg.1,by omega,hg.2⟩) (λ_ h=>by simp at h) (hM j hj);rcases hx with hx |hx
 ·exact hx
 omega
theorem Vg (zl:List Value):∀ n,madeCells zl.toArray (n*zl.length)=(List.replicate n zl).flatten.toArray:=by
 intro n;unfold madeCells;apply Array.toList_inj.1;simp only[Array.toList_map,Array.toList_range,List.toList_toArray];induction n with
 |zero=>simp
 |succ n ih=>
 rw[Nat.add_mul,Nat.one_mul,List.range_add,List.map_append,ih,List.replicate_succ',List.flatten_append];congr 1;simp only[List.map_map,List.flatten_cons,List.flatten_nil,List.append_nil];apply List.ext_getElem?;intro k;by_cases hk:k<zl.length
 ·simp[hk,Function.comp_def,Nat.mod_eq_of_lt hk]
 simp[hk]
theorem PL {t:Ty} {m:Md}:∀ {l:List TV} {xs:List t.I},GP t m l=some xs->xs.length=l.length/\∀ (k:Nat) (hk:k<xs.length),l[k]?=some ⟨t,m,xs[k]⟩
 |[],xs,h=>by simp only[GP,Option.some.injEq] at h;subst h;exact⟨rfl,λk hk=>by simp at hk⟩
 |b::r,xs,h=>by
  simp only[GP] at h;split at h
  ·rename_i ht;split at h
   ·rename_i hm;split at h
    ·rename_i l hl;injection h with h;subst h;obtain⟨h1,h2⟩:=PL hl;obtain⟨bt,bm,bx⟩:=b;simp only at ht hm;subst ht hm;refine⟨by simp[h1],λk hk=>?_⟩;cases k with
     |zero=>rfl
     |succ k=>simpa using h2 k (by simpa using hk)
    cases h
   cases h
  cases h
theorem Un (hT:eA P Θ=true) (h:a6 σ w0 W0 Z H S a w) {hn:Hn} {o:Oper} {T:TypeId} {n:Nat} {ps:Array (Nat×Operand)} (ho:o.op=.buildSlice T n ps) (e:b6 Θ hn S o.dst T n ps.toList=some (true,S')):L9 P w0 W0 Z H S' a o.dst w (execOp a.eval o):=by
 unfold b6 at e;split at e;case h_2=>cases e
 rename_i T0 t te fs0 hi;cases hc:(xB n ps.toList&&Nat.ble n 1800) with
 |false=>rw[hc] at e;cases e
 |true=>
  rw[hc] at e
  simp only[cond_true] at e
  simp only[Bool.and_eq_true] at hc
  obtain⟨hpl,anO⟩:=hc
  have anO:=Nat.le_of_ble_eq_true anO
  split at e
  case h_2=>cases e
  rename_i l S1 hl
  obtain⟨bU,ow,τ,l9,h1,hnn,hk,rX,hll,hj,wV⟩:=EV hT ps.toList _ 0 h hl
  rw[List.length_replicate] at hll
  obtain⟨_,hu,hT0⟩:=fJ hT hi
  simp only at hT0
  subst hT0
  obtain⟨u1,u2,u3⟩:=yG hu rfl
  simp only at u1 u2
  obtain⟨i2,yB,ht2⟩:=jW u2
  obtain⟨⟨sm,inf,z,k1,k2,_,_,_,k3,k4⟩,_,hte⟩:=fJ hT yB
  rw[hte] at k1
  rw[ht2] at k2 k4 sm
  have du:∀ g,ow g->g<w.heap.size:=λg hg=>by
   obtain⟨i,_,hi⟩:=hk.YA g hg
   exact h.lt g i hi
  -- all parts are of the type
  have lP:(∃ m xs m',GP t m l=some xs/\(m'=.o te none m∨(m'=.k/\m.b5=true))/\S'=S1.put o.dst (.v ⟨.sl t,m',xs⟩ [])):=by
   split at e
   ·simp only[Option.some.injEq,Prod.mk.injEq,true_and] at e
    cases hf:hn.aeQ o.dst with
    |true=>exact⟨.k,[],_,rfl,.inr ⟨by rw[hf];rfl,rfl⟩,e.symm⟩
    |false=>exact⟨_,[],_,rfl,.inl (by rw[hf];rfl),e.symm⟩
   ·split at e
    ·rename_i xs hxs
     simp only[Option.some.injEq,Prod.mk.injEq,true_and] at e
     refine⟨_,xs,_,hxs,?_,e.symm⟩
     generalize hf:(hn.aeQ o.dst&&_)=q
     cases q with
     |true=>
      simp only[Bool.and_eq_true] at hf
      exact .inr ⟨rfl,hf.2⟩
     |false=>exact .inl rfl
    ·cases e
  obtain⟨m,xs,m',hxs,hm',rfl⟩:=lP
  obtain⟨x1,x2⟩:=PL hxs
  have lU:∀ (k:Nat) (b:TV),l[k]?=some b->b.t=t:=λk b hb=>by
   have hkl:k<xs.length:=by rw[x1];exact(List.getElem?_eq_some_iff.1 hb).1
   rw[x2 k hkl] at hb
   injection hb with hb
   rw[←hb]
  have hzl:(l.map λb=>zc b.t)=List.replicate n (zc t):=by
   apply List.ext_getElem?
   intro k
   rw[List.getElem?_map,List.getElem?_replicate]
   by_cases hkl:k<l.length
   ·rw[if_pos (by omega),List.getElem?_eq_getElem hkl,Option.map_some,lU k _ (List.getElem?_eq_getElem hkl)]
   ·rw[if_neg (by omega),List.getElem?_eq_none (by omega)]
    rfl
  have agX:=RR (a:=a) (ps:=ps.toList) (l:=l) (l9:=l9) (place:=λk=>some (k*t.size,t.size)) rX (by rw[hll];exact hpl) (λk b cs hb qk=>by
    obtain⟨fH,c1,c2,_⟩:=wV k b hb
    rw[c1] at qk
    injection qk with qk
    subst qk
    exact lQ _ c2) (λk b hb=>by
    obtain⟨fH,c1,_,c3⟩:=wV k b hb
    simp only[Nat.zero_add] at c3
    exact⟨fH,c1,c3⟩) (λk hk=>by
    rw[lU k _ (List.getElem?_eq_getElem hk),hzl]
    congr 2
    unfold Dg
    rw[List.take_replicate,Nat.min_eq_left (by omega),List.map_replicate,List.sum_replicate_nat,Aw])
  have Wt:z.cells=(zc t).toArray:=sz k4 (λu hu=>?_)
  rotate_left
  ·-- one cell each
   have:∀ (t:Ty),∀ u∈zc t,u.oneCell'=true:=by
    intro t
    induction t with
    |pair a b iha ihb=>intro u hu;simp only[zc,List.mem_append] at hu;rcases hu with hu |hu;exact iha u hu;exact ihb u hu
    |arr n t ih=>intro u hu;simp only[zc,List.mem_flatten] at hu;obtain⟨c,hc,hu⟩:=hu;rw[List.eq_of_mem_replicate hc] at hu;exact ih u hu
    |unit=>intro u hu;simp[zc] at hu
    |_=>intro u hu;simp only[zc,List.mem_singleton] at hu;subst hu;rfl
   exact this t u hu
  have hlc:l9.length=xs.length:=by omega
  have YH:=amG (w:=w) (A:=Av σ Z) (H:=H) (t:=t) (m:=m) (xs:=xs) (l9:=l9) (ow:=ow) (τ:=τ) te hlc (λj hj=>by
    have FU:=x2 j hj
    obtain⟨fH,c1,c2,_⟩:=wV j _ FU
    rw[List.getElem?_eq_getElem (by omega)] at c1
    injection c1 with c1
    rw[c1]
    simpa using c2) du (by simp only[maxLen];omega)
  have dp:(Instr.buildSlice T0 n (ps.map λ(j,x)=>(j,a.eval x))).run P w=.ok (.slice (some ⟨w.heap.size,0,none⟩) n n) (w.alloc (.cells l9.flatten.toArray te)):=by
   have pL: ¬n*t.size>2^24:=by
    have:=Nat.mul_le_mul anO sm
    omega
   have agY:Instr.fill (λi=>some (i*t.size,t.size)) ((Array.range (n*t.size)).map (z.cells[· %z.cells.size]!)) (ps.map λx=>(x.1,a.eval x.2)).toList=some l9.flatten.toArray:=by
    have:=Vg (zc t) n
    unfold madeCells at this
    rw[Wt,Array.toList_map]
    rw[Aw] at this
    rw[this,←hzl]
    exact agX
   have hso:(sizeOf te).run P w=.ok t.size w:=by
    simp[sizeOf,typeInfo,k1,k2]
   have hzv:(zeroValue te).run P w=.ok z w:=by
    simp[zeroValue,typeInfo,k1,k3]
   by_cases h0:n*t.size=0
   ·have anP:Instr.fill (λi=>some (i*t.size,t.size)) ((Array.range (n*t.size)).map ((#[]:Array Value)[· %(#[]:Array Value).size]!)) (ps.map λx=>(x.1,a.eval x.2)).toList=some l9.flatten.toArray:=by
     rw[←agY,h0]
     simp[Array.range_zero']
    unfold Instr.buildSlice
    simp only[Sem.run_bind,run_underlying u1,Result.andThen_ok,hso,pL,if_false]
    rw[if_pos h0]
    simp only[Sem.run_bind,Sem.run_pure,Result.andThen_ok,anP]
    simp[newRow]
   ·unfold Instr.buildSlice
    simp only[Sem.run_bind,run_underlying u1,Result.andThen_ok,hso,pL,if_false]
    rw[if_neg h0]
    simp only[Sem.run_bind,Sem.run_pure,hzv,Result.andThen_ok,agY]
    simp[newRow]
  have hex:(execOp a.eval o).run P w=.ok (.value (.slice (some ⟨w.heap.size,0,none⟩) n n)) (w.alloc (.cells l9.flatten.toArray te)):=by
   simp only[execOp,ho,Sem.run_bind,dp,Result.andThen_ok]
   rfl
  have asU:∀ g,Av bU Z g->g<w.heap.size:=λg hg=>by
   rcases hg with⟨i,hi⟩ |hz
   ·exact h1.lt g i hi
   ·have:=(h1.old g hz).2;have:=h1.fr.size;omega
  rcases hm' with rfl |⟨rfl,hmk⟩
  ·refine⟨w.alloc (.cells l9.flatten.toArray te),.slice (some ⟨w.heap.size,0,none⟩) n n,hex,λg hg=>heap_alloc_old w _ g hg,_,h1.Wn (b:=⟨.sl t,.o te none m,xs⟩) (cs:=[.slice (some ⟨w.heap.size,0,none⟩) n n]) (λg hg=>heap_alloc_old w _ g hg) (h1.fr.alloc _) (λg hg=>?_) (λg hg hx=>?_) (by simp[ah,isAgg]) (by
    have:xs.length=n:=by omega
    rw[this] at YH
    exact YH)⟩
   ·rcases hg with hg |rfl
    ·obtain⟨i,hi,bq⟩:=hk.now g hg
     have:=du g hg
     exact⟨by simp only[World.alloc,Array.size_push];omega,.inl ⟨i,by omega,bq⟩⟩
    ·exact⟨by simp only[World.alloc,Array.size_push];omega,.inr (Nat.le_refl _)⟩
   ·rcases hx with hx |hx |rfl
    ·exact .inl (hk.Av.1 hx)
    ·obtain⟨i,_,hi⟩:=hk.YA g hx
     exact .inl (.inl ⟨i,hi⟩)
    ·exact .inr (Nat.le_refl _)
  ·refine⟨w.alloc (.cells l9.flatten.toArray te),.slice (some ⟨w.heap.size,0,none⟩) n n,hex,λg hg=>heap_alloc_old w _ g hg,_,h1.Wn (b:=⟨.sl t,.k,xs⟩) (cs:=[.slice (some ⟨w.heap.size,0,none⟩) n n]) (ow:=λ_=>False) (A':=Av bU Z) (λg hg=>heap_alloc_old w _ g hg) (h1.fr.alloc _) (λg hg=>hg.elim) (λg hg hx=>hx.resolve_right id) (by simp[ah,isAgg]) (CG (t:=.sl t) rfl ?_)⟩
   have hxn:xs.length=n:=by omega
   show K _ _ (.sl t) xs _
   have akK:∀ c∈l9,c.length=t.size:=λc hc=>by
    obtain⟨j,hj,rfl⟩:=List.getElem_of_mem hc
    obtain⟨fH,c1,c2,_⟩:=wV j _ (x2 j (by omega))
    rw[List.getElem?_eq_getElem hj] at c1
    injection c1 with c1
    rw[c1]
    exact(lQ _ c2).1
   have OF:l9.flatten.length=n*t.size:=by rw[xU t.size akK,hlc,hxn]
   simp only[K]
   refine⟨some ⟨w.heap.size,0,none⟩,n,by rw[hxn],by omega,λ_=>⟨w.heap.size,0,l9.flatten.toArray,te,(0,0),rfl,λhx=>absurd (asU _ hx) (Nat.lt_irrefl _),heap_alloc_new w _,by simp only[List.size_toArray,OF,hxn];omega,λj hj'=>?_⟩⟩
   obtain⟨fH,c1,c2,_⟩:=wV j _ (x2 j hj')
   rw[List.getElem?_eq_getElem (by omega)] at c1
   injection c1 with c1
   have nw:=YG l9 akK j (by omega)
   simp only[Nat.zero_add]
   rw[nw,c1]
   refine cv ⟨λg _ hg=>heap_alloc_old w _ g hg,λg _ hg=>hk.Av.1 hg⟩ t (nj t hmk c2)
theorem Wu (hT:eA P Θ=true) (h:a6 σ w0 W0 Z H S a w) {o:Oper} {T:TypeId} {l c:Operand} (ho:o.op=.makeSlice T l c) (e:pT Θ S o.dst T l c=some (true,S')):L9 P w0 W0 Z H S' a o.dst w (execOp a.eval o):=by
 unfold pT at e;split at e;case h_2=>cases e
 rename_i T0 t te fs0 n n' hi hl hc;split at e;case h_2=>cases e
 rename_i z hz;split at e;case isFalse=>cases e
 rename_i hzt;simp only[Option.some.injEq,Prod.mk.injEq,Bool.and_eq_true,decide_eq_true_eq] at e;obtain⟨⟨⟨rfl,h0⟩,h40⟩,rfl⟩:=e;obtain⟨kl,hl⟩:=sy h hl;obtain⟨kc,hc⟩:=sy h hc;obtain⟨_,hu,hT0⟩:=fJ hT hi;simp only at hT0;subst hT0;obtain⟨u1,u2,u3⟩:=yG hu rfl;simp only at u1;obtain⟨i,inf,zv,yB,lU,hx,GS,q1,q2,q3,q4,q5,q6⟩:=OH hT hz;have Yb:M w (Av σ Z) H z.t z.m z.t.z (zc z.t) (λ_=>False) []:=RN z.t GS;have hzc:zv.cells=(zc z.t).toArray:=sz q4 (lQ _ Yb).2;have dp:=run_make (P:=P) w T0 te inf zv u1 q1 q3 kl kc n n h0 (Int.le_refl _) (by
  have h1:(inf.bytes:Int)<=256:=by omega
  calc (inf.bytes:Int)*n<=256*n:=Int.mul_le_mul_of_nonneg_right h1 h0
   _<=281474976710656:=by omega) (by omega)
 rw[q2,hzc,←Aw,Vg] at dp;have YH:=amG (w:=w) (A:=Av σ Z) (H:=H) (t:=t) (m:=z.m) (xs:=List.replicate n.toNat t.z) (l9:=List.replicate n.toNat (zc z.t)) (ow:=λ_=>False) (τ:=λ_=>0) te (by simp) (λj hj=>by
  subst hzt
  simp only[List.getElem_replicate]
  exact Wo Yb) (λ_ h=>h.elim) (by simp only[List.length_replicate,maxLen];omega)
 refine⟨w.alloc (.cells (List.replicate n.toNat (zc z.t)).flatten.toArray te),_,?_,λg hg=>heap_alloc_old w _ g hg,_,h.Wn (b:=⟨.sl t,.o te none z.m,List.replicate n.toNat t.z⟩) (cs:=[.slice (some ⟨w.heap.size,0,none⟩) n.toNat n.toNat]) (w':=w.alloc (.cells (List.replicate n.toNat (zc z.t)).flatten.toArray te)) (v:=.slice (some ⟨w.heap.size,0,none⟩) n.toNat n.toNat) (λg hg=>heap_alloc_old w _ g hg) (h.fr.alloc _) (λg hg=>?_) (λg hg hx=>?_) (by simp[ah,isAgg]) (by
  rw[List.length_replicate] at YH
  exact YH)⟩
 ·simp only[execOp,ho,hl,hc,Sem.run_bind,dp,Result.andThen_ok];rfl
 ·rcases hg with hg |rfl
  ·exact hg.elim
  exact⟨by simp only[World.alloc,Array.size_push];omega,.inr (Nat.le_refl _)⟩
 rcases hx with hx |hx |rfl
 ·exact .inl hx
 ·exact hx.elim
 exact .inr (Nat.le_refl _)
end Go.Pv
namespace Go.Pv
open List Int IntKind
variable {P:Program} {w w':World} {A A' Wr:Nat->Prop} {H:Nat->Value} {tm FP:Nat->Value} {S S' S1:St} {σ bU iB:Nat->Option Nat} {w0:World} {W0 Z:Nat->Prop} {a:Act} {own:Nat->Prop} {v:Value} {Θ:fA} {dst:Option Nat}
theorem Mg {olds news:List Value} {s n j:Nat} (hl:olds.length=n*s) (hj:j<n):((olds++news).drop (j*s)).take s=(olds.drop (j*s)).take s:=by have h1:(j+1)*s<=n*s:=Nat.mul_le_mul_right s hj;rw[Nat.add_mul,Nat.one_mul] at h1;rw[List.drop_append_of_le_length (by omega),List.take_append_of_le_length (by rw[List.length_drop];omega)]
theorem Vh {olds news:List Value} {s n j:Nat} (hl:olds.length=n*s):((olds++news).drop ((n+j)*s)).take s=(news.drop (j*s)).take s:=by rw[Nat.add_mul,←hl,List.drop_append,Nat.add_sub_cancel_left,List.drop_eq_nil_of_le (Nat.le_add_right _ _),List.nil_append]
theorem Dh {cur:List Value} {s n j:Nat} (hj:j<n):((cur.take (n*s)).drop (j*s)).take s=(cur.drop (j*s)).take s:=by have h1:(j+1)*s<=n*s:=Nat.mul_le_mul_right s hj;rw[Nat.add_mul,Nat.one_mul] at h1;rw[List.drop_take,List.take_take,Nat.min_eq_left (by omega)]
theorem hZ {g o:Nat} {t:TypeId} {cur:Array Value} {vs:List Value} (hw:w.heap[g]?=some (.cells cur t (0,0))) (hb:o+vs.length<=cur.size) (h1:∀ u∈vs,u.oneCell'=true): w.setCells g o vs=w.setRow g (putCells cur.toList o vs).toArray:=by
 have e1:=run_storeCells_at (P:=(default:Program)) g o t vs 0 cur w hw (by omega) h1;have e2:=run_storeCells_cells (P:=(default:Program)) g o vs 0 w (λj hj=>by
  have:o+j<cur.size:=by omega
  simp[World.cell?,hw,this]) (λj hj=>by simp[World.frozen?,hw]) h1
 rw[e1] at e2;simp only[Nat.add_zero,Result.ok.injEq,true_and] at e2;exact e2.symm
theorem abo {T' e':TypeId} {size:Nat} {t:Ty} {ys:List t.I} {vy:Value} (hk:P.underlying T'=some (.slice e')) (hs:size=t.size) (h:∃ X c,vy=.slice X ys.length c/\(0<ys.length->∃ g off cur T fr,X=some ⟨g,off,none⟩/\w.heap[g]?=some (.cells cur T fr)/\off+ys.length*t.size<=cur.size/\∀ u∈(cur.toList.drop off).take (ys.length*t.size),u.oneCell'=true)): ∃ news,Src P size T' vy ys.length news w/\(∀ g off cur T fr X c,vy=.slice X ys.length c->X=some ⟨g,off,none⟩->w.heap[g]?=some (.cells cur T fr)->0<ys.length->news=(cur.toList.drop off).take (ys.length*t.size)):=by
 subst hs;obtain⟨X,c,rfl,h⟩:=h;rcases Nat.eq_zero_or_pos ys.length with h0 |h0
 ·refine⟨[],?_,λ_ _ _ _ _ _ _ _ _ _ hp=>by omega⟩;rw[h0];cases X with
  |none=>exact Src.ofNil w hk c
  |some ad=>exact Src.ofSlice w hk ad 0 c [] (by simp) (λj u hu=>by simp at hu) (λu hu=>by simp at hu)
 obtain⟨g,off,cur,T,fr,rfl,hw,hb,h1⟩:=h h0;refine⟨(cur.toList.drop off).take (ys.length*t.size),Src.ofSlice w hk ⟨g,off,none⟩ ys.length c _ (by have hc:cur.toList.length=cur.size:=Array.length_toList;rw[List.length_take,List.length_drop];omega) (λj u hu=>?_) h1,?_⟩
 ·have hj:j<ys.length*t.size:=(by have:=(List.getElem?_eq_some_iff.1 hu).1;rw[List.length_take] at this;omega);rw[List.getElem?_take,if_pos hj,List.getElem?_drop] at hu;rw[tV];simp only[World.cell?,hw];rw[←Array.getElem?_toList];exact hu
 intro g' atT abp T' fr' X' c' e1 e2 Rm _;injection e1 with e1;subst e2;injection e1 with e1;injection e1 with e1 L8;subst e1 L8;rw[hw] at Rm;injection Rm with Rm;injection Rm with Rm;rw[Rm]
def join (JJ:Nat->Prop) (n:Nat) (Wv τ:Nat->Nat) (g:Nat):Nat:=open Classical in if JJ g then n+Wv g else τ g
theorem adC {JJ:Nat->Prop} {n:Nat} {Wv τ:Nat->Nat} {g:Nat} (h:JJ g):join JJ n Wv τ g=n+Wv g:=if_pos h
theorem YI {JJ:Nat->Prop} {n:Nat} {Wv τ:Nat->Nat} {g:Nat} (h: ¬JJ g):join JJ n Wv τ g=τ g:=if_neg h
theorem Mh (hT:eA P Θ=true) {T T' e ty:TypeId} {t:Ty} {tag:Option Nat} {me:Md} {xs ys:List t.I} {vx vy:Value} {RS JJ:Nat->Prop} {Wv:Nat->Nat} {news:List Value} {inf:TypeInfo} {z:Value}
  (hu:P.underlying T=some (.slice e)) (hi:P.info? e=some inf) (hz:inf.zero=some z) (pL:inf.size=t.size) (hby:inf.bytes<=32*t.size) (hzs:z.cells.size=t.size) (Qk:0<t.size)
  (hx:M w A H (.sl t) (.o e tag me) xs [vx] RS []) (Ha:Src P t.size T' vy ys.length news w)
  (hN:∀ (k:Nat) (hk:k<ys.length),M w A H t me ys[k] ((news.drop (k*t.size)).take t.size) (λg=>JJ g/\Wv g=k) [])
  (agZ:∀ g,RS g->¬JJ g) (hxA:∀ g,RS g->A g) (hlx:∀ g,RS g->g<w.heap.size) (hlN:∀ g,JJ g->g<w.heap.size) (Ww:(xs.length+ys.length)*t.size<=4398046511104):
  ∃ v' w' fp,(Builtin.append_ #[T,T'] ty #[vx,vy]).run P w=.ok v' w'/\M w' (λg=>A g∨w.heap.size<=g) H (.sl t) (.o e none me) (xs++ys) [v'] fp []/\
   (∀ g,g<w.heap.size->¬RS g->w'.heap[g]?=w.heap[g]?)/\(∀ g,fp g->g<w'.heap.size/\(RS g∨JJ g∨w.heap.size<=g))/\w.heap.size<=w'.heap.size/\w'.os=w.os/\w'.tape=w.tape/\w'.output=w.output:=by
 have ag0:xs.length+ys.length<=4398046511104:=Nat.le_trans (Nat.le_mul_of_pos_right _ Qk) Ww
 have ag3:(xs.length+ys.length)*inf.bytes<=140737488355328:=by
  have:(xs.length+ys.length)*inf.bytes<=(xs.length+ys.length)*(32*t.size):=Nat.mul_le_mul_left _ hby
  have e2:(xs.length+ys.length)*(32*t.size)=32*((xs.length+ys.length)*t.size):=by rw[Nat.mul_left_comm]
  omega
 have adD:Src P inf.size T' vy ys.length news w:=by rw[pL];exact Ha
 have akG:=Ha.one
 have hnl:=Ha.newsLen
 -- the grown row
 have grown:∀ (base:Option Addr) (c:Nat) (olds:List Value) (owo:Nat->Prop) (τ:Nat->Nat),vx=.slice base xs.length c->c<xs.length+ys.length->olds.length=xs.length*t.size->
   (Builtin.firstCells inf.size xs.length vx).run P w.drew=.ok olds.toArray w.drew->(∀ g,owo g->RS g)->
   (∀ (k:Nat) (hk:k<xs.length),M w A H t me xs[k] ((olds.drop (k*t.size)).take t.size) (λg=>owo g/\τ g=k) [])->
   ∃ v' w' fp,(Builtin.append_ #[T,T'] ty #[vx,vy]).run P w=.ok v' w'/\M w' (λg=>A g∨w.heap.size<=g) H (.sl t) (.o e none me) (xs++ys) [v'] fp []/\
   (∀ g,g<w.heap.size->¬RS g->w'.heap[g]?=w.heap[g]?)/\(∀ g,fp g->g<w'.heap.size/\(RS g∨JJ g∨w.heap.size<=g))/\w.heap.size<=w'.heap.size/\w'.os=w.os/\w'.tape=w.tape/\w'.output=w.output:=by
  intro base c olds owo τ hv hc hol Wx Ui I1
  subst hv
  have dp:=run_append_grow_src (P:=P) w T T' ty e inf z hu hi hz base xs.length c olds Wx vy ys.length news adD hc (by omega) (by
   have h1:=nextslicecap_le hc
   have h2:=Nat.mul_le_mul_right inf.bytes h1
   rw[Nat.mul_assoc] at h2
   omega)
  have hge:=grownCap_ge w (xs.length+ys.length) c e
  have hle:=grownCap_le_maxLen w (xs.length+ys.length) c e (by simp only[maxLen];omega)
  let pad:=Builtin.zeroCells z.cells (grownCap w (xs.length+ys.length) c e - (xs.length+ys.length))
  have mf:∀ g,g<w.heap.size->(w.drew.alloc (.cells ((olds++news).toArray++pad) e)).heap[g]?=w.heap[g]?:=λg hg=>heap_alloc_old w.drew _ g hg
  refine⟨_,w.drew.alloc (.cells ((olds++news).toArray++pad) e),λg=>owo g∨JJ g∨g=w.heap.size,dp,?_,λg hg _=>mf g hg,λg hg=>?_,by simp,rfl,rfl,rfl⟩
  ·simp only[M]
   refine .inr (.inr ⟨e,none,me,some ⟨w.heap.size,0,none⟩,grownCap w (xs.length+ys.length) c e,rfl,by rw[List.length_append],by rw[List.length_append];exact hge,λh hh=>(by cases hh),.inr ⟨w.heap.size,(olds++news).toArray++pad,join JJ xs.length Wv τ,rfl,.inr (.inr rfl),heap_alloc_new w.drew _,?_,hle,λj hj=>?_⟩⟩)
   ·simp only[pad,Array.size_append,List.size_toArray,List.length_append,size_zeroCells,hzs,hol,hnl,←Nat.add_mul]
    congr 1
    omega
   ·have cP:aU w (w.drew.alloc (.cells ((olds++news).toArray++pad) e)) A (λg=>A g∨w.heap.size<=g):=⟨λg _ hg=>mf g hg,λg hg hx=>hx.resolve_right (by omega)⟩
    rw[Array.toList_append,List.toList_toArray]
    rcases Nat.lt_or_ge j xs.length with hjx |hjx
    ·rw[List.getElem_append_left hjx,List.append_assoc,Mg hol hjx]
     refine aG cP t (λg hg hl=>mf g hl) (λg hg hl=>⟨.inl hg.1,by omega,?_⟩) (λ_ h=>by simp at h) (I1 j hjx)
     rw[YI (agZ g (Ui g hg.1))]
     exact hg.2
    ·have hjy:j - xs.length<ys.length:=by rw[List.length_append] at hj;omega
     rw[List.getElem_append_right hjx]
     have e1:=Vh (olds:=olds) (news:=news++pad.toList) (s:=t.size) (n:=xs.length) (j:=j - xs.length) hol
     rw[show xs.length+(j - xs.length)=j from by omega,←List.append_assoc,Mg hnl hjy] at e1
     rw[e1]
     refine aG cP t (λg hg hl=>mf g hl) (λg hg hl=>⟨.inr (.inl hg.1),by omega,?_⟩) (λ_ h=>by simp at h) (hN (j - xs.length) hjy)
     rw[adC hg.1,hg.2]
     omega
  ·have:(w.drew.alloc (.cells ((olds++news).toArray++pad) e)).heap.size=w.heap.size+1:=by simp
   rcases hg with hg |hg |rfl
   ·exact⟨by have:=hlx g (Ui g hg);omega,.inl (Ui g hg)⟩
   ·exact⟨by have:=hlN g hg;omega,.inr (.inl hg)⟩
   ·exact⟨by omega,.inr (.inr (Nat.le_refl _))⟩
 -- nothing to append
 have nothing:∀ (base:Option Addr) (c:Nat),vx=.slice base xs.length c->xs.length<=c->ys.length=0->
   ∃ v' w' fp,(Builtin.append_ #[T,T'] ty #[vx,vy]).run P w=.ok v' w'/\M w' (λg=>A g∨w.heap.size<=g) H (.sl t) (.o e none me) (xs++ys) [v'] fp []/\
   (∀ g,g<w.heap.size->¬RS g->w'.heap[g]?=w.heap[g]?)/\(∀ g,fp g->g<w'.heap.size/\(RS g∨JJ g∨w.heap.size<=g))/\w.heap.size<=w'.heap.size/\w'.os=w.os/\w'.tape=w.tape/\w'.output=w.output:=by
  intro base c hv hle h0
  have hys:ys=[]:=List.eq_nil_of_length_eq_zero h0
  subst hys
  have hn0:news=[]:=List.eq_nil_of_length_eq_zero (by simpa using hnl)
  rw[hn0] at adD
  rw[hv] at hx ⊢
  have dp:=run_append_nothing (P:=P) w T T' ty e inf hu hi base xs.length c hle vy adD
  refine⟨_,w,RS,dp,?_,λ_ _ _=>rfl,λg hg=>⟨hlx g hg,.inl hg⟩,Nat.le_refl _,rfl,rfl,rfl⟩
  rw[List.append_nil]
  have GM:M w A H (.sl t) (.o e none me) xs [.slice base xs.length c] RS []:=by
   simp only[M] at hx ⊢
   rcases hx with⟨hn,_⟩ |⟨hk,_⟩ |⟨T1,asV,me1,X,c1,e1,e2,h1,h2,h3⟩
   ·simp at hn
   ·simp[Md.b5] at hk
   ·injection e1 with e1 L8 Di
    subst e1 L8 Di
    exact .inr (.inr ⟨e,none,me,X,c1,rfl,e2,h1,λh hh=>(by cases hh),h3⟩)
  exact aG (w:=w) ⟨λ_ _ _=>rfl,λg hg hx=>hx.resolve_right (by omega)⟩ (.sl t) (λ_ _ _=>rfl) (λg hg _=>hg) (λ_ h=>h) GM
 have hx0:=hx
 simp only[M] at hx
 rcases hx with⟨hn,_⟩ |⟨hk,_⟩ |⟨T1,asV,me1,X,c,e1,e2,hle,afc,hx⟩
 ·simp at hn
 ·simp[Md.b5] at hk
 ·injection e1 with e1 L8 Di
  subst e1 L8 Di
  simp only[List.cons.injEq,and_true] at e2
  rcases Nat.eq_zero_or_pos ys.length with h0 |h0
  ·exact nothing X c e2 hle h0
  ·rcases hx with⟨hxs,hc⟩ |⟨g,cur,τ,rfl,FN,hw,qk,hcm,I1⟩
   ·subst hxs hc
    refine grown X 0 [] (λ_=>False) (λ_=>0) e2 (by simpa using h0) (by simp) ?_ (λ_ h=>h.elim) (λk hk=>by simp at hk)
    rw[e2]
    cases X with
    |none=>exact run_firstCells_none w.drew _ _ _ _
    |some ad=>exact run_firstCells_some w.drew _ _ ad _ _ [] (by simp) (λj u hu=>by simp at hu)
   ·have hbx:xs.length*t.size<=cur.toList.length:=by
     have h1:cur.toList.length=cur.size:=Array.length_toList
     have h2:=Nat.mul_le_mul_right t.size hle
     omega
    have rX:cur.toList.length=cur.size:=Array.length_toList
    by_cases FV:xs.length+ys.length<=c
    ·-- room
     have GS:xs.length*t.size+news.length<=cur.size:=by
      rw[hnl,qk,←Nat.add_mul]
      exact Nat.mul_le_mul_right _ FV
     have dp:=run_append_room_src (P:=P) w T T' ty e inf hu hi g 0 xs.length c vy ys.length news adD FV (λj hj=>by
      have:xs.length*inf.size+j<cur.size:=by rw[pL];omega
      simp[World.cell?,hw,this]) (λj hj=>by simp[World.frozen?,hw])
     rw[Nat.zero_add,pL,hZ hw GS akG] at dp
     have mf:∀ k,k≠g->(w.setRow g (putCells cur.toList (xs.length*t.size) news).toArray).heap[k]?=w.heap[k]?:=λk hk=>setRow_other w g k _ hk
     refine⟨_,w.setRow g (putCells cur.toList (xs.length*t.size) news).toArray,λk=>RS k∨JJ k,by rw[e2];exact dp,?_,λk _ hk=>mf k (λe'=>hk (by rw[e'];exact FN)),λk hk=>?_,by rw[setRow_size];exact Nat.le_refl _,rfl,rfl,rfl⟩
     ·simp only[M]
      refine .inr (.inr ⟨e,none,me,some ⟨g,0,none⟩,c,rfl,by rw[List.length_append],by rw[List.length_append];exact FV,λh hh=>(by cases hh),.inr ⟨g,(putCells cur.toList (xs.length*t.size) news).toArray,join JJ xs.length Wv τ,rfl,.inl FN,setRow_heap w g cur _ e (0,0) hw,?_,hcm,λj hj=>?_⟩⟩)
      ·rw[List.size_toArray,qo _ _ _ (by omega),rX,qk]
      ·have cP:aU w (w.setRow g (putCells cur.toList (xs.length*t.size) news).toArray) A (λg=>A g∨w.heap.size<=g):=⟨λk hk _=>mf k (λe'=>hk (by rw[e'];exact hxA g FN)),λk hk hx=>hx.resolve_right (by omega)⟩
       rw[List.toList_toArray]
       have htl:(cur.toList.take (xs.length*t.size)).length=xs.length*t.size:=by rw[List.length_take];omega
       have afd:putCells cur.toList (xs.length*t.size) news=cur.toList.take (xs.length*t.size)++(news++cur.toList.drop (xs.length*t.size+news.length)):=by unfold putCells;rw[List.append_assoc]
       rcases Nat.lt_or_ge j xs.length with hjx |hjx
       ·have nw:((putCells cur.toList (xs.length*t.size) news).drop (j*t.size)).take t.size=(cur.toList.drop (j*t.size)).take t.size:=by rw[afd,Mg htl hjx,Dh hjx]
        rw[List.getElem_append_left hjx,nw]
        refine aG cP t (λk hk hl=>mf k hk.2.1) (λk hk hl=>⟨.inl hk.1,hk.2.1,?_⟩) (λ_ h=>h) (I1 j hjx)
        rw[YI (agZ k hk.1)]
        exact hk.2.2
       ·have hjy:j - xs.length<ys.length:=by rw[List.length_append] at hj;omega
        rw[List.getElem_append_right hjx]
        have e1:=Vh (olds:=cur.toList.take (xs.length*t.size)) (news:=news++cur.toList.drop (xs.length*t.size+news.length)) (s:=t.size) (n:=xs.length) (j:=j - xs.length) htl
        rw[show xs.length+(j - xs.length)=j from by omega,Mg hnl hjy] at e1
        rw[←afd] at e1
        rw[e1]
        have hgN:∀ k,JJ k->k≠g:=λk hk e'=>agZ g FN (by rw[←e'];exact hk)
        refine aG cP t (λk hk hl=>mf k (hgN k hk.1)) (λk hk hl=>⟨.inr hk.1,hgN k hk.1,?_⟩) (λ_ h=>by simp at h) (hN (j - xs.length) hjy)
        rw[adC hk.1,hk.2]
        omega
     ·rw[setRow_size]
      rcases hk with hk |hk
      ·exact⟨hlx k hk,.inl hk⟩
      ·exact⟨hlN k hk,.inr (.inl hk)⟩
    ·refine grown (some ⟨g,0,none⟩) c (cur.toList.take (xs.length*t.size)) (λk=>RS k/\k≠g) τ e2 (by omega) (by rw[List.length_take];omega) ?_ (λk hk=>hk.1) (λk hk=>?_)
     ·rw[e2,pL]
      refine run_firstCells_some w.drew _ _ ⟨g,0,none⟩ _ _ _ (by rw[List.length_take];omega) (λj u hu=>?_)
      rw[tV]
      have hj:j<xs.length*t.size:=by
       have:=(List.getElem?_eq_some_iff.1 hu).1
       rw[List.length_take] at this
       omega
      rw[List.getElem?_take,if_pos hj] at hu
      have Rm:w.drew.heap[g]?=some (.cells cur e (0,0)):=hw
      simp only[World.cell?,Rm,Nat.zero_add]
      rw[←Array.getElem?_toList]
      exact hu
     ·rw[Dh hk]
      exact aG (aU.refl _ _) t (λ_ _ _=>rfl) (λg' bq _=>⟨⟨bq.1,bq.2.1⟩,bq.2.2⟩) (λ_ h=>h) (I1 k hk)
end Go.Pv
namespace Go.Pv
open List Int IntKind
variable {P:Program} {w w':World} {A A' Wr:Nat->Prop} {H:Nat->Value} {tm FP:Nat->Value} {S S' S1:St} {σ bU iB:Nat->Option Nat} {w0:World} {W0 Z:Nat->Prop} {a:Act} {own:Nat->Prop} {v:Value} {Θ:fA} {dst:Option Nat}
def KS (w:World) (A:Nat->Prop) (t:Ty) (xs:List t.I) (cs:List Value):Prop:=∃ X c,cs=[.slice X xs.length c]/\xs.length<=c/\(0<xs.length->∃ g off cur T fr,X=some ⟨g,off,none⟩/\w.heap[g]?=some (.cells cur T fr)/\off+xs.length*t.size<=cur.size/\∀ j (h:j<xs.length),K w A t xs[j] ((cur.toList.drop (off+j*t.size)).take t.size))
theorem anQ {t:Ty} {m:Md} {xs:List t.I} {cs:List Value} {ow:Nat->Prop} (hk:m.UK.b5=true) (h:M w A H (.sl t) m xs cs ow []):KS w A t xs cs:=by
 simp only[M] at h;rcases h with⟨hn,_⟩ |⟨_,h⟩ |⟨T,tag,me,X,c,rfl,rfl,hc,ht,h⟩
 ·simp at hn
 ·simp only[K] at h;obtain⟨X,c,rfl,hc,h⟩:=h;refine⟨X,c,rfl,hc,λhp=>?_⟩;obtain⟨g,off,cur,T,fr,h1,_,h2,h3,h4⟩:=h hp;exact⟨g,off,cur,T,fr,h1,h2,h3,h4⟩
 refine⟨X,c,rfl,hc,λhp=>?_⟩;rcases h with⟨rfl,_⟩ |⟨g,cur,τ,rfl,FN,hw,pL,hm,h⟩
 ·simp at hp
 refine⟨g,0,cur,T,(0,0),rfl,hw,?_,λj hj=>?_⟩
 ·have:=Nat.mul_le_mul_right t.size hc;omega
 rw[Nat.zero_add];exact nj t hk (h j hj)
theorem anR {t:Ty} {xs:List t.I} {X:Option Addr} {c lo hi:Nat} (h:KS w A t xs [.slice X xs.length c]) (h1:lo<=hi) (h2:hi<=xs.length):
  KS w A t ((xs.take hi).drop lo) [.slice (if c=lo then X else X.map (·.add (lo*t.size))) (hi - lo) (c - lo)]:=by
 obtain⟨X',c',e,hc,h⟩:=h
 simp only[List.cons.injEq,Value.slice.injEq,and_true,true_and] at e
 obtain⟨rfl,rfl⟩:=e
 have hl:((xs.take hi).drop lo).length=hi - lo:=by rw[List.length_drop,List.length_take];omega
 refine⟨_,_,by rw[hl],by omega,λhp=>?_⟩
 rw[hl] at hp
 obtain⟨g,off,cur,T,fr,rfl,hw,ho,hj⟩:=h (by omega)
 have e1:(lo+(hi - lo))*t.size<=xs.length*t.size:=Nat.mul_le_mul_right _ (by omega)
 rw[Nat.add_mul] at e1
 refine⟨g,off+lo*t.size,cur,T,fr,?_,hw,by rw[hl];omega,λj Ub=>?_⟩
 rotate_left
 ·have Ew:j<hi - lo:=by rw[←hl];exact Ub
  have:=hj (lo+j) (by omega)
  rw[show((xs.take hi).drop lo)[j]=xs[lo+j]'(by omega) from by simp]
  rw[show off+lo*t.size+j*t.size=off+(lo+j)*t.size from by rw[Nat.add_mul];omega]
  exact this
 ·rw[if_neg (by omega)]
  simp only[Option.map_some,tV]
theorem YJ (h:a6 σ w0 W0 Z H S a w) {av:AV} {t:Ty} {m:Md} {ys:List t.I} (hh:Holds w (Av σ Z) H (cn a) S own av v) (e:S.Ii av=some ⟨.sl t,m,ys⟩) (hk:m.UK.b5=true): KS w (Av σ Z) t ys [v]:=by
 cases av with
 |v a ex=>
  cases ex with
  |cons _ _=>simp[St.Ii] at e
  |nil=>
  simp only[St.Ii,Option.some.injEq] at e;subst e;obtain⟨cs,h1,h2⟩:=hh;have:cs=[v]:=by simpa[ah,isAgg] using h1
  subst this;exact anQ hk h2
 |al t1 s p=>
 simp only[St.Ii] at e;obtain⟨r,dw,cs,hr,hc,hm⟩:=hh;obtain⟨rfl,fp,k2,k3⟩:=gy h hr hc e;have:cs=[v]:=by simpa[ah,isAgg] using hm
 subst this;exact anQ hk k3
 |cut t1 s p lo hi=>
  simp only[St.Ii] at e;obtain⟨r,dw,t',X,n,c,hr,rfl,hc,Yg,Rq,rfl⟩:=hh;cases hp:S.place s p with
  |none=>rw[hp] at e;cases e
  |some b'=>obtain⟨ht,fp,k2,k3⟩:=gy h hr hc hp;obtain⟨bt,bm,bx⟩:=b';simp only at ht;subst ht;rw[hp] at e;simp only[Option.some.injEq] at e;injection e with e1 e2 e3;injection e1 with e1;subst e1 e2;simp only[heq_eq_eq] at e3;subst e3;have hK:=anQ hk k3;have hn:n=length bx:=(by obtain⟨_,_,e,_⟩:=hK;simp only[List.cons.injEq,Value.slice.injEq,and_true] at e;exact e.2.1);subst hn;exact anR hK Yg Rq
 |_=>simp[St.Ii] at e
theorem Dj {s:Nat} {Q:Value->Prop} {l:List Value}:∀ (n:Nat),(∀ j,j<n->∀ u∈(l.drop (j*s)).take s,Q u)->∀ u∈l.take (n*s),Q u
 |0,_,u,hu=>by simp at hu
 |n+1,h,u,hu=>by
  rw[Nat.add_mul,Nat.one_mul,List.take_add] at hu;rcases List.mem_append.1 hu with hu |hu
  ·exact Dj n (λj hj=>h j (by omega)) u hu
  exact h n (by omega) u hu
theorem ag4 {T' e':TypeId} {t:Ty} {ys:List t.I} {vy:Value} (hk:P.underlying T'=some (.slice e')) (h:KS w A t ys [vy]): ∃ news,Src P t.size T' vy ys.length news w/\∀ (k:Nat) (hk:k<ys.length),K w A t ys[k] ((news.drop (k*t.size)).take t.size):=by
 obtain⟨X,c,e,hc,h⟩:=h;simp only[List.cons.injEq,and_true] at e;obtain⟨news,h1,h2⟩:=abo (P:=P) (w:=w) (t:=t) (ys:=ys) (vy:=vy) hk rfl ⟨X,c,e,λhp=>by
  obtain⟨g,off,cur,T,fr,rfl,hw,hb,hj⟩:=h hp
  refine⟨g,off,cur,T,fr,rfl,hw,hb,Dj _ λj Ub u hu=>?_⟩
  rw[List.drop_drop] at hu
  exact(xV t (hj j Ub)).2 u hu⟩
 refine⟨news,h1,λk hk=>?_⟩;obtain⟨g,off,cur,T,fr,rfl,hw,hb,hj⟩:=h (by omega);rw[h2 g off cur T fr _ c e rfl hw (by omega),Dh hk,List.drop_drop];exact hj k hk
theorem Kv (hT:eA P Θ=true) {T0:TypeId} {i:TI} (hi:Θ.find T0=some i) {t:Ty} (lU:i.ty=.sl t) {o:Oper} {x y:Operand} {T':TypeId} {tag:Option Nat} {me:Md} {xs ys:List t.I} {RS JJ:Nat->Prop} {Wv:Nat->Nat} {news:List Value} {n:Nat} (ho:o.op=.call { callee:=.builtin .append,args:=#[x,y],argTypes:=#[T0,T'] }) (h2:a6 iB w0 W0 Z H S1 a w) (hS1:S1.length=n) (hA:A=Av iB Z) (hx:M w A H (.sl t) (.o i.e tag me) xs [a.eval x] RS []) (Ha:Src P t.size T' (a.eval y) ys.length news w) (hN:∀ (k:Nat) (hk:k<ys.length),M w A H t me ys[k] ((news.drop (k*t.size)).take t.size) (λg=>JJ g/\Wv g=k) []) (agZ:∀ g,RS g->¬JJ g) (Me:∀ g,RS g∨JJ g->∃ i,n<=i/\iB g=some i) (Ww:(xs.length+ys.length)*t.size<=4398046511104): RB P w0 W0 Z H (S1.put o.dst (.v ⟨.sl t,.o i.e none me,xs++ys⟩ [])) a o.dst w (execOp a.eval o):=by
 subst hA hS1;obtain⟨_,hu,hT0⟩:=fJ hT hi;obtain⟨u1,u2,u3⟩:=yG hu lU;rw[hT0] at u1;obtain⟨i2,yB,ht2⟩:=jW u2;obtain⟨⟨sm,inf,z,k1,k2,kb,_,_,k3,k4⟩,_,hte⟩:=fJ hT yB;rw[hte] at k1;rw[ht2] at k2 k4 kb;have du:∀ g,RS g∨JJ g->g<w.heap.size:=λg hg=>by obtain⟨i,_,hi⟩:=Me g hg;exact h2.lt g i hi
 have Wt:z.cells.size=t.size:=by
  unfold ah at k4;split at k4
  ·rw[k4,Value.cells,List.size_toArray,Aw]
  rename_i hag;have hl:=Aw t;rw[k4] at hl;have hv:∀ (t:Ty),∀ u∈zc t,u.oneCell'=true:=by
   intro t;induction t with
   |pair a b iha ihb=>intro u hu;simp only[zc,List.mem_append] at hu;rcases hu with hu |hu;exact iha u hu;exact ihb u hu
   |arr n t ih=>intro u hu;simp only[zc,List.mem_flatten] at hu;obtain⟨c,hc,hu⟩:=hu;rw[List.eq_of_mem_replicate hc] at hu;exact ih u hu
   |unit=>intro u hu;simp[zc] at hu
   |_=>intro u hu;simp only[zc,List.mem_singleton] at hu;subst hu;rfl
  have h1:=hv t z (by rw[k4];simp);have:z.cells=#[z]:=(by cases z<;>first |rfl |simp[Value.oneCell'] at h1);rw[this];simpa using hl
 obtain⟨v',w',fp,r1,r2,r3,r4,r5,r6,r7,r8⟩:=Mh (ty:=o.type) hT u1 k1 k3 k2 kb Wt u3 hx Ha hN agZ (λg hg=>by
  obtain⟨i,_,hi⟩:=Me g (.inl hg)
  exact .inl ⟨i,hi⟩) (λg hg=>du g (.inl hg)) (λg hg=>du g (.inr hg)) Ww
 refine⟨w',v',.inl ?_,_,h2.amC (b:=⟨.sl t,.o i.e none me,xs++ys⟩) (cs:=[v']) (ow:=fp) (A':=λg=>Av iB Z g∨w.heap.size<=g) r5 (λg hg hn=>r3 g hg (λhx=>?_)) ?_ (λg hg=>?_) (λg hg hx=>?_) (by simp[ah,isAgg]) r2⟩
 ·simp[execOp,ho,resolve,invoke,builtin,r1]
 ·obtain⟨i,hi1,yB⟩:=Me g (.inl hx);exact hn i hi1 yB
 ·refine⟨by rw[r6];exact h2.fr.os,by rw[r7];exact h2.fr.tape,by rw[r8];exact h2.fr.output,Nat.le_trans h2.fr.size r5,λg hg hn=>?_⟩;rw[r3 g (by have:=h2.fr.size;omega) (λhx=>?_)]
  ·exact h2.fr.block g hg hn
  obtain⟨i,_,hi⟩:=Me g (.inl hx);rcases h2.new g i hi with h1 |h1
  ·omega
  exact hn h1
 ·obtain⟨q1,q2⟩:=r4 g hg;refine⟨q1,?_⟩;rcases q2 with q2 |q2 |q2
  ·exact .inl (Me g (.inl q2))
  ·exact .inl (Me g (.inr q2))
  exact .inr q2
 rcases hx with hx |hx
 ·exact .inl hx
 rcases(r4 g hx).2 with q2 |q2 |q2
 ·obtain⟨i,_,hi⟩:=Me g (.inl q2);exact .inl (.inl ⟨i,hi⟩)
 ·obtain⟨i,_,hi⟩:=Me g (.inr q2);exact .inl (.inl ⟨i,hi⟩)
 exact .inr q2
theorem aff (hT:eA P Θ=true) (h:a6 σ w0 W0 Z H S a w) {o:Oper} {as:Array Operand} {ts:Array TypeId} (ho:o.op=.call { callee:=.builtin .append,args:=as,argTypes:=ts }) (e:dD Θ S o.dst ts.toList as.toList=some (true,S')):RB P w0 W0 Z H S' a o.dst w (execOp a.eval o):=by
 obtain⟨as⟩:=as;obtain⟨ts⟩:=ts;simp only at e;unfold dD at e;split at e;case h_2=>cases e
 rename_i x y T T';split at e;case h_2=>cases e
 rename_i t e0 tag me xs S1 i hb hi;unfold St.take at hb;split at hb;case h_2=>cases hb
 rename_i av jU;obtain⟨bU,cs,ow,h1,hm,hM,hk,hn⟩:=lV h jU hb;cases hc:(decide (i.ty=.sl t)&&Nat.beq i.e e0&&Θ.is T' (.sl t)) with
 |false=>rw[hc] at e;cases e
 |true=>rw[hc] at e;simp only[cond_true] at e;simp only[Bool.and_eq_true,decide_eq_true_eq] at hc;obtain⟨⟨lU,hee⟩,hT'⟩:=hc;have hee:=Nat.eq_of_beq_eq_true hee;subst hee;have qk:cs=[a.eval x]:=(by simpa[ah,isAgg] using hm);subst qk;obtain⟨i',G0,agW⟩:=jW hT';obtain⟨_,Il,hT1⟩:=fJ hT G0;obtain⟨u1,_,_⟩:=yG Il agW;rw[hT1] at u1;have asW:aU w w (Av σ Z) (Av bU Z):=⟨λ_ _ _=>rfl,λg _ hg=>hk.Av.1 hg⟩;cases hme:me.b5 with
 |true=>
  rw[hme] at e;simp only[cond_true] at e;split at e;case h_2=>cases e
  rename_i t' m' ys hy;cases hmi:m'.UK.b5 with
  |false=>rw[hmi] at e;cases e
  |true=>
  rw[hmi] at e;simp only[cond_true] at e;split at e;case isFalse=>cases e
  rename_i htt;subst htt;simp only[Option.some.injEq,Prod.mk.injEq,decide_eq_true_eq] at e;obtain⟨Ww,rfl⟩:=e;unfold St.rd at hy;split at hy;case h_2=>cases hy
  rename_i av2 RP;have hKS:=YJ h1 (bM h1 RP) hy hmi;obtain⟨news,Ha,I1⟩:=ag4 (P:=P) u1 hKS;refine Kv (n:=S1.length) (A:=Av bU Z) (RS:=ow) (JJ:=λ_=>False) (Wv:=λ_=>0) hT hi lU ho h1 rfl rfl (aG asW _ (λ_ _ _=>rfl) (λ_ h _=>h) (λ_ h=>h) hM) Ha (λk mc=>CG hme (I1 k mc)) (λ_ _ h=>h) (λg hg=>?_) Ww;rw[hn];exact hk.now g (hg.resolve_right id)
 |false=>
 rw[hme] at e;simp only[cond_false] at e;split at e;case h_2=>cases e
 rename_i t' m' ys S2 hy;split at e;case isFalse=>cases e
 rename_i htt;subst htt;split at e;case isFalse=>cases e
 rename_i hmi;simp only[Option.some.injEq,Prod.mk.injEq,decide_eq_true_eq] at e;obtain⟨Ww,rfl⟩:=e;unfold St.take at hy;split at hy;case h_2=>cases hy
 rename_i av2 RP;obtain⟨iB,cs2,Dd,h2,hm2,hM2,Vb,hn2⟩:=lV h1 RP hy;rw[hn] at Vb hn2;have qk:cs2=[a.eval y]:=by simpa[ah,isAgg] using hm2
 subst qk;have anS:aU w w (Av bU Z) (Av iB Z):=⟨λ_ _ _=>rfl,λg _ hg=>Vb.Av.1 hg⟩;have aqg:M w (Av iB Z) H (.sl t') m' ys [a.eval y] Dd []:=aG anS _ (λ_ _ _=>rfl) (λ_ h _=>h) (λ_ h=>h) hM2;have hM':M w (Av iB Z) H (.sl t') (.o i.e tag me) xs [a.eval x] ow []:=aG ⟨λ_ _ _=>rfl,λg _ hg=>hk.Av.1 (Vb.Av.1 hg)⟩ _ (λ_ _ _=>rfl) (λ_ h _=>h) (λ_ h=>h) hM;have Me:∀ g,ow g∨Dd g->∃ i,S.length<=i/\iB g=some i:=λg hg=>(hk.trans Vb).now g hg;simp only[M] at aqg;rcases aqg with⟨hn0,_⟩ |⟨hK,_⟩ |⟨T2,Yy,me2,X,c,rfl,e2,hle,afc,I1⟩
 ·simp at hn0
 ·rw[←hmi] at hme;rw[EE hK] at hme;cases hme
 simp only[Md.UK] at hmi;subst hmi;simp only[List.cons.injEq,and_true] at e2;have Ha:∃ (JJ:Nat->Prop) (Wv:Nat->Nat) (news:List Value),Src P t'.size T' (a.eval y) ys.length news w/\(∀ g,JJ g->Dd g)/\
   ∀ (k:Nat) (hk:k<ys.length),M w (Av iB Z) H t' me2 ys[k] ((news.drop (k*t'.size)).take t'.size) (λg=>JJ g/\Wv g=k) []:=by
  rcases I1 with⟨hys,_⟩ |⟨g,cur,τ,hX,FN,hw,pL,aqf,I1⟩
  ·subst hys
   obtain⟨news,s1,_⟩:=abo (P:=P) (w:=w) (t:=t') (ys:=([]:List t'.I)) (vy:=a.eval y) u1 rfl ⟨X,c,e2,λhp=>by simp at hp⟩
   exact⟨λ_=>False,λ_=>0,news,s1,λ_ h=>h.elim,λk hk=>by simp at hk⟩
  ·subst hX
   have rX:cur.toList.length=cur.size:=Array.length_toList
   have hb:=Nat.mul_le_mul_right t'.size hle
   obtain⟨news,s1,s2⟩:=abo (P:=P) (w:=w) (t:=t') (ys:=ys) (vy:=a.eval y) u1 rfl ⟨some ⟨g,0,none⟩,c,e2,λhp=>⟨g,0,cur,T2,(0,0),rfl,hw,by omega,Dj _ λj hj u hu=>by
    rw[List.drop_zero] at hu
    exact(lQ t' (I1 j hj)).2 u hu⟩⟩
   refine⟨λg'=>Dd g'/\g'≠g,τ,news,s1,λ_ h=>h.1,λk hk=>?_⟩
   rw[s2 g 0 cur T2 (0,0) _ c e2 rfl hw (by omega),Dh hk,List.drop_zero]
   exact aG (aU.refl _ _) t' (λ_ _ _=>rfl) (λg' bq _=>⟨⟨bq.1,bq.2.1⟩,bq.2.2⟩) (λ_ h=>h) (I1 k hk)
 obtain⟨JJ,Wv,news,s1,s2,s3⟩:=Ha;exact Kv (n:=S.length) (A:=Av iB Z) (RS:=ow) (JJ:=JJ) (Wv:=Wv) hT hi lU ho h2 hn2 rfl hM' s1 s3 (λg hg EG=>hk.apart Vb hg (s2 g EG)) (λg hg=>Me g (hg.imp id (s2 g))) Ww
end Go.Pv
namespace Go.Pv
open List Int IntKind
variable {P:Program} {w w':World} {A A' Wr:Nat->Prop} {H:Nat->Value} {tm FP:Nat->Value} {S S' S1:St} {σ bU:Nat->Option Nat} {w0:World} {W0 Z:Nat->Prop} {a:Act} {own:Nat->Prop} {v:Value} {Θ:fA} {dst:Option Nat}
theorem RT {p:Path} {ex:List Path} (h:∀ q∈ex,EA q p=false):LM p ex=[]:=by
 have key:∀ (p r:Path),EA (p++r) p=true:=by
  intro p;induction p with
  |nil=>intro r;cases r<;>rfl
  |cons a p ih=>intro r;cases a<;>simp[EA,ih]
 apply List.eq_nil_iff_forall_not_mem.2;intro q hq;have:=h _ (Q'.1 hq);rw[key] at this;cases this
theorem Hb (h:a6 σ w0 W0 Z H S a w) {vv:Value} {t:Ty} {s:Nat} {p:Path} (hpc:p≠[]) {r:TV} {ex:List Path} {b:TV} (hh:Holds w (Av σ Z) H (cn a) S own (.al t s p) vv) (hs:S.at s=.v r ex) (hg:a7 p r.t r.m r.x=some b) (hk:b.m.b5=false) (rX:∀ q∈ex,EA q p=false):
  ∃ bU cs ow,a6 bU w0 W0 Z H (((S.weaken s).cover s p).set s (.v r (ex++[p]))) a w/\ah b.t vv cs/\M w (Av bU Z) H b.t b.m b.x cs ow []/\pO σ bU S.length ow/\(((S.weaken s).cover s p).set s (.v r (ex++[p]))).length=S.length:=by
 obtain⟨r0,dw,cs,hr,hc,hm⟩:=hh
 obtain⟨ex0,b2,fH,ow0,j1,j2,j3,j4,hM,j5,j6,j7⟩:=oM h hr
 rw[hs] at j1
 injection j1 with j1 j1'
 subst j1 j1'
 have j1:=hs
 rw[hg] at j3
 injection j3 with j3
 subst j3
 have j3:=hg
 obtain⟨cs2,fp,k1,k2,k3,k4⟩:=Vc p hM j2 hr.val j3 hk
 rw[hc] at k1
 injection k1 with k1
 subst k1
 rw[RT rX] at k3
 -- the ownership without what is taken
 have agN:s<S.length:=kT (by rw[j1];exact λe=>by cases e)
 let bU:Nat->Option Nat:=λg=>open Classical in if fp g then some S.length else σ g
 have RL:∀ g i,bU g=some i->∃ k,σ g=some k:=by
  intro g i hg
  simp only[bU] at hg
  split at hg
  ·exact⟨s,k2 g (by assumption)⟩
  ·exact⟨i,hg⟩
 have RM:∀ g i,σ g=some i->¬fp g->bU g=some i:=by
  intro g i hg hn
  simp only[bU,if_neg hn,hg]
 have cP:aU w w (Av σ Z) (Av bU Z):=⟨λ_ _ _=>rfl,λg _ hg=>by
  rcases hg with⟨i,hg⟩ |hg
  ·exact .inl (RL g i hg)
  ·exact .inr hg⟩
 have agO:pO σ bU S.length fp:=by
  refine⟨λg hg=>⟨s,agN,k2 g hg⟩,λg hg=>⟨_,Nat.le_refl _,by simp only[bU,if_pos hg]⟩,λg i hg hi=>?_,λg=>⟨λ⟨i,hg⟩=>RL g i hg,λ⟨i,hg⟩=>?_⟩,λg i hg hi=>RM g i hg (λhx=>?_)⟩
  ·simp only[bU] at hg
   split at hg
   ·injection hg with hg;omega
   ·exact hg
  ·simp only[bU]
   split
   ·exact⟨_,rfl⟩
   ·exact⟨i,hg⟩
  ·have:=k2 g hx
   rw[hg] at this
   injection this with this
   omega
 refine⟨bU,cs,fp,?_,by rw[j4];exact hm,aG cP _ (λ_ _ _=>rfl) (λ_ h _=>h) (λ_ h=>h) k3,agO,by simp[St.weaken,St.cover]⟩
 have hlen:((S.weaken s).cover s p).length=S.length:=by simp[St.weaken,St.cover]
 have Qj:s<S.length:=by
  rcases Nat.lt_or_ge s S.length with hl |hl
  ·exact hl
  ·unfold St.at at j1
   rw[List.getD_eq_getElem?_getD,List.getElem?_eq_none hl] at j1
   cases j1
 have OG:St.at (((S.weaken s).cover s p).set s (.v r (ex++[p]))) s=.v r (ex++[p]):=by rw[eH,if_pos ⟨rfl,by rw[hlen];exact Qj⟩]
 have yE:∀ i,i≠s->St.at (((S.weaken s).cover s p).set s (.v r (ex++[p]))) i=(match (bif (S.at i).kS s then AV.dead else S.at i) with
   | .ad t s' q=>bif Nat.beq s' s&&under p q then .dead else .ad t s' q
   |a=>a):=by
  intro i hi
  rw[eH,if_neg (λe=>hi e.1),RJ,s6]
  try (cases (bif AV.kS s (S.at i) then AV.dead else S.at i)<;>rfl)
 refine⟨by simp only[List.length_set,hlen];exact h.len,h.defers,h.fr,λg i hg=>(RL g i hg).elim λk hk=>h.new g k hk,λg i hg=>(RL g i hg).elim λk hk=>h.lt g k hk,λg hg=>⟨?_,(h.old g hg).2⟩,λi=>?_⟩
 ·simp only[bU]
  split
  ·rename_i hx
   have:=k2 g hx
   rw[(h.old g hg).1] at this
   cases this
  ·exact(h.old g hg).1
 ·by_cases Vd:i=s
  ·subst Vd
   rw[OG]
   exact⟨dw,hr.mat,aG cP _ (λ_ _ _=>rfl) (λg hg _=>RM g _ hg.1 hg.2) (λ_ h=>h) k4⟩
  ·rw[yE i Vd]
   cases Eu:(S.at i).kS s with
   |true=>trivial
   |false=>
    simp only[cond_false]
    have hi:=h.holds i
    have base:Holds w (Av bU Z) H (cn a) S (λg=>bU g=some i) (S.at i) (cn a i):=
     hi.kept cP (λg hg _=>⟨rfl,RM g i hg (λhx=>Vd (by have:=k2 g hx;rw[hg] at this;injection this))⟩) (λs' _=>⟨λ_ _ h=>h,rfl,_,h.holds s',λ_ _ _=>rfl⟩)
    have hSv:∀ j r' Qi,j≠s->S.at j=.v r' Qi->St.at (((S.weaken s).cover s p).set s (.v r (ex++[p]))) j=.v r' Qi:=by
     intro j r' Qi hj hv
     rw[yE j hj,hv]
     simp[AV.kS]
    cases nm:S.at i with
    |v b3 ex3=>
     rw[nm] at base
     obtain⟨c3,l1,l2⟩:=base
     exact⟨c3,l1,l2⟩
    |Ih l=>
     rw[nm] at base
     exact base
    |ad t' s' q=>
     rw[nm] at base Eu
     simp only
     cases anH:(Nat.beq s' s&&under p q) with
     |true=>trivial
     |false=>
      simp only[cond_false]
      refine pV j1 hSv OG Eu (λt2 q2 e2=>?_) base (λ_ _ e=>by cases e) (λ_ e=>by cases e)
      injection e2 with _ e3 e4
      subst e3 e4
      simpa using anH
    |dead=>trivial
    |undef=>rw[nm] at base;exact base
    |al t' s' q=>
     rw[nm] at base Eu
     exact pV j1 hSv OG Eu (λt2 q2 e2=>by cases e2) base (λ_ _ e=>by cases e) (λ_ e=>by cases e)
    |cut t' s' q lo G0=>
     rw[nm] at base Eu
     exact pV j1 hSv OG Eu (λt2 q2 e2=>by cases e2) base (λ_ _ e=>by cases e) (λ_ e=>by cases e)
    |vY f fc=>
     rw[nm] at base Eu
     exact pV j1 hSv OG Eu (λt2 q2 e2=>by cases e2) base (λ_ _ e=>by cases e) (λ_ e=>by cases e)
theorem abq (h:a6 σ w0 W0 Z H S a w) {x:Operand} {t:Ty} {s:Nat} {p:Path} (hpc:p≠[]) {r:TV} {ex:List Path} {b:TV} (hh:Holds w (Av σ Z) H (cn a) S own (.al t s p) (a.eval x)) (hs:S.at s=.v r ex) (hg:a7 p r.t r.m r.x=some b) (hk:b.m.b5=false) (rX:∀ q∈ex,EA q p=false): ∃ bU cs ow,a6 bU w0 W0 Z H (((S.weaken s).cover s p).set s (.v r (ex++[p]))) a w/\ah b.t (a.eval x) cs/\M w (Av bU Z) H b.t b.m b.x cs ow []/\pO σ bU S.length ow/\(((S.weaken s).cover s p).set s (.v r (ex++[p]))).length=S.length:=Hb h hpc hh hs hg hk rX
theorem abr (hT:eA P Θ=true) (h:a6 σ w0 W0 Z H S a w) {o:Oper} {as:Array Operand} {ts:Array TypeId} (ho:o.op=.call { callee:=.builtin .append,args:=as,argTypes:=ts }) (e:oK Θ S o.dst ts.toList as.toList=some (true,S')):RB P w0 W0 Z H S' a o.dst w (execOp a.eval o):=by
 obtain⟨as⟩:=as;obtain⟨ts⟩:=ts;simp only at e;unfold oK at e;split at e;case h_2=>cases e
 rename_i x y T T';split at e;case h_2=>cases e
 rename_i tt s st pp jU;split at e;case h_2=>cases e
 rename_i r ex hs;split at e;case h_2=>cases e
 rename_i t e0 tag me xs i hg hi;cases hc:(decide (i.ty=.sl t)&&Nat.beq i.e e0&&Θ.is T' (.sl t)&&me.b5) with
 |false=>rw[hc] at e;cases e
 |true=>
  rw[hc] at e;simp only[cond_true] at e;simp only[Bool.and_eq_true,decide_eq_true_eq] at hc;obtain⟨⟨⟨lU,hee⟩,hT'⟩,hme⟩:=hc;have hee:=Nat.eq_of_beq_eq_true hee;subst hee;split at e;case h_2=>cases e
  rename_i t' m' ys hy;cases hmi:m'.UK.b5 with
 |false=>rw[hmi] at e;cases e
 |true=>
 rw[hmi] at e;simp only[cond_true] at e;split at e;case isFalse=>cases e
 rename_i htt;subst htt;simp only[Option.some.injEq,Prod.mk.injEq,Bool.and_eq_true,decide_eq_true_eq] at e;obtain⟨⟨rX,Ww⟩,rfl⟩:=e;obtain⟨bU,cs,ow,h1,hm,hM,hk,hn⟩:=abq (x:=x) h (by simp) (bM h jU) hs hg (by simp[Md.b5]) (λq hq=>by simpa using List.all_eq_true.1 rX q hq);have qk:cs=[a.eval x]:=by simpa[ah,isAgg] using hm
 subst qk;obtain⟨i',G0,agW⟩:=jW hT';obtain⟨_,Il,hT1⟩:=fJ hT G0;obtain⟨u1,_,_⟩:=yG Il agW;rw[hT1] at u1;unfold St.rd at hy;split at hy;case h_2=>cases hy
 rename_i av2 RP;have hKS:=YJ h1 (bM h1 RP) hy hmi;obtain⟨news,Ha,I1⟩:=ag4 (P:=P) u1 hKS;refine Kv (n:=S.length) (A:=Av bU Z) (RS:=ow) (JJ:=λ_=>False) (Wv:=λ_=>0) hT hi lU ho h1 hn rfl hM Ha (λk mc=>CG hme (I1 k mc)) (λ_ _ h=>h) (λg hg=>?_) Ww;exact hk.now g (hg.resolve_right id)
end Go.Pv
namespace Go.Pv
open List Int IntKind
variable {P:Program} {w w':World} {A A' Wr:Nat->Prop} {H:Nat->Value} {tm FP:Nat->Value} {S S' S1:St} {σ bU iB:Nat->Option Nat} {w0:World} {W0 Z:Nat->Prop} {a:Act} {own:Nat->Prop} {v:Value} {Θ:fA} {dst:Option Nat}
theorem a6.setAt (h:a6 σ w0 W0 Z H S a w) {i:Nat} {av:AV} (Hc:∀ j,j≠i->(S.at j).refs i=false) (hv:Holds w (Av σ Z) H (cn a) (S.set i av) (λg=>σ g=some i) av (cn a i)): a6 σ w0 W0 Z H (S.set i av) a w:=by
 refine⟨by rw[List.length_set];exact h.len,h.defers,h.fr,h.new,h.lt,h.old,λj=>?_⟩;rw[eH];by_cases hj:j=i/\i<S.length
 ·rw[if_pos hj,hj.1];exact hv
 rw[if_neg hj];by_cases zN:j=i
 ·have:S.at j=.dead:=Classical.byContradiction λhx=>hj ⟨zN,by rw[←zN];exact kT hx⟩;rw[this];trivial
 refine(h.holds j).kept (aU.refl _ _) (λg hg _=>⟨rfl,hg⟩) (λs hs=>?_);have hsi:s≠i:=λe=>by subst e;rw[Hc j zN] at hs;cases hs
 exact⟨λr ex hr=>by rw[eH,if_neg (λe=>hsi e.1)];exact hr,rfl,_,h.holds s,λ_ _ _=>rfl⟩
theorem a6.part (h:a6 σ w0 W0 Z H S a w) {i:Nat} (hi:∀ r ex,S.at i≠ .v r ex) (hl:i<S.length) {Q:Nat->Prop} {av:AV} (hv:Holds w (Av σ Z) H (cn a) (S.set i av) (λg=>σ g=some i/\ ¬Q g) av (cn a i)): ∃ bU,a6 bU w0 W0 Z H (S.set i av) a w/\pO σ bU S.length (λg=>σ g=some i/\Q g):=by
 let bU:Nat->Option Nat:=λg=>open Classical in if σ g=some i/\Q g then some S.length else σ g
 have hs:∀ g j,bU g=some j->∃ k,σ g=some k:=λg j hg=>by
  simp only[bU] at hg;split at hg
  ·rename_i hx;exact⟨i,hx.1⟩
  exact⟨j,hg⟩
 have yC:∀ g j,σ g=some j->¬(σ g=some i/\Q g)->bU g=some j:=λg j hg hn=>by simp only[bU,if_neg hn,hg]
 have cP:aU w w (Av σ Z) (Av bU Z):=⟨λ_ _ _=>rfl,λg _ hg=>by
  rcases hg with⟨j,hg⟩ |hg
  ·exact .inl (hs g j hg)
  ·exact .inr hg⟩
 refine⟨bU,⟨by rw[List.length_set];exact h.len,h.defers,h.fr,λg j hg=>(hs g j hg).elim λk hk=>h.new g k hk,λg j hg=>(hs g j hg).elim λk hk=>h.lt g k hk,λg hg=>⟨?_,(h.old g hg).2⟩,λj=>?_⟩,?_⟩
 ·simp only[bU];rw[if_neg (λhx=>by rw[(h.old g hg).1] at hx;cases hx.1)];exact(h.old g hg).1
 ·rw[eH];by_cases hj:j=i
  ·rw[if_pos ⟨hj,hl⟩,hj];exact hv.kept cP (λg hg _=>⟨rfl,yC g i hg.1 (λhx=>hg.2 hx.2)⟩) (λs _=>⟨λ_ _ h=>h,rfl,by
    by_cases hsi:s=i
    ·subst hsi
     rw[eH,if_pos ⟨rfl,hl⟩]
     exact⟨_,hv,λ_ _ _=>rfl⟩
    ·rw[eH,if_neg (λe=>hsi e.1)]
     refine⟨_,(h.holds s).kept (aU.refl _ _) (λg hg _=>⟨rfl,hg⟩) (λs1 hs1=>⟨λr ex hr=>?_,rfl,_,h.holds s1,λ_ _ _=>rfl⟩),λ_ _ _=>rfl⟩
     by_cases aqh:s1=i
     ·subst aqh;exact absurd hr (hi r ex)
     ·rw[eH,if_neg (λe=>aqh e.1)];exact hr⟩)
  rw[if_neg (λe=>hj e.1)];refine(h.holds j).kept cP (λg hg _=>⟨rfl,yC g j hg (λhx=>hj (by rw[hx.1] at hg;injection hg with hg;exact hg.symm))⟩) (λs hs1=>⟨λr ex hr=>?_,rfl,_,h.holds s,λ_ _ _=>rfl⟩);by_cases hsi:s=i
  ·subst hsi;exact absurd hr (hi r ex)
  rw[eH,if_neg (λe=>hsi e.1)];exact hr
 refine⟨λg hg=>⟨i,hl,hg.1⟩,λg hg=>⟨_,Nat.le_refl _,by simp only[bU,if_pos hg]⟩,λg j hg hj=>?_,λg=>⟨λ⟨j,hg⟩=>hs g j hg,λ⟨j,hg⟩=>?_⟩,λg j hg hj=>yC g j hg (λhx=>?_)⟩
 ·simp only[bU] at hg;split at hg
  ·injection hg with hg;omega
  exact hg
 ·simp only[bU];split
  ·exact⟨_,rfl⟩
  exact⟨j,hg⟩
 rw[hx.1] at hg;injection hg with hg;omega
theorem RU (h:a6 σ w0 W0 Z H S a w) {o:Oper} {x:Operand} {j:Nat} (ho:o.op=.extract x j) (e:oJ S o.dst x j=some (true,S')):wa P w0 W0 Z H S' a o.dst w (execOp a.eval o):=by
 unfold oJ at e;split at e;case h_2=>cases e
 rename_i i;split at e;case h_2=>cases e
 rename_i l hl;split at e;case h_2=>cases e
 rename_i b hb;have hh:=h.holds i;rw[hl] at hh;obtain⟨vs,τ,hv,hlen,I1⟩:=hh;have hbj:l[j]?=some (some b):=by
  rw[List.getD_eq_getElem?_getD] at hb;cases hq:l[j]? with
  |none=>rw[hq] at hb;cases hb
  |some q=>rw[hq] at hb;simp only[Option.getD_some] at hb;rw[hb]
 obtain⟨u,cs,hu,hm,hM⟩:=I1 j b hbj;have dp:∀ w2,(execOp a.eval o).run P w2=.ok (.value u) w2:=λw2=>by have:a.eval (.tmp i)=.tuple vs.toArray:=hv;simp[execOp,ho,this,Instr.extract,hu]
 cases hk:b.m.b5 with
 |true=>rw[hk] at e;simp only[cond_true,Option.some.injEq,Prod.mk.injEq,true_and] at e;subst e;exact dm h dp ⟨cs,hm,CG hk (nj _ hk hM)⟩
 |false=>
 rw[hk] at e;simp only[cond_false] at e;split at e;case h_2=>cases e
 rename_i d hd;cases hdi:Nat.beq d i with
 |true=>rw[hdi] at e;cases e
 |false=>
 rw[hdi] at e;simp only[cond_false,Option.some.injEq,Prod.mk.injEq,true_and] at e;subst e;rw[←hd];have Uh:i<S.length:=kT (by rw[hl];exact λe=>by cases e);obtain⟨bU,h1,hk1⟩:=h.part (i:=i) (λr ex=>by rw[hl];exact λe=>by cases e) Uh (Q:=λg=>τ g=j) (av:=.Ih (l.set j none)) ⟨vs,τ,hv,by rw[List.length_set];exact hlen,λk b' mc=>by
  rw[List.getElem?_set] at mc
  split at mc
  ·split at mc<;>cases mc
  ·rename_i Wy
   obtain⟨u',fH,c1,c2,c3⟩:=I1 k b' mc
   exact⟨u',fH,c1,c2,aG (aU.refl _ _) _ (λ_ _ _=>rfl) (λg hg _=>⟨⟨hg.1,λhx=>Wy (by rw[←hx,hg.2])⟩,hg.2⟩) (λ_ h=>h) c3⟩⟩
 exact rq.still (v:=u) dp (De (n:=S.length) h1 hk1 (List.length_set) (λw2 _=>dp w2) hm (aG (aU.refl _ _) _ (λ_ _ _=>rfl) (λg hg _=>hg) (λ_ h=>h) hM))
theorem ag5 (S:St) (d:Nat) (b:TV) (ex:List Path) (i:Nat) (hi:∀ j,(S.at j).refs i=false) (j:Nat):((S.put (some d) (.v b ex)).at j).refs i=false:=by
 rw[iA];split
 ·simp[AV.refs]
 cases hr:(S.at j).refs d&&(S.at d).LG with
 |true=>simp[AV.refs]
 |false=>exact hi j
theorem afg (S:St) (i:Nat) (hv:(S.at i).LG=true) (j:Nat):((S.put (some i) .dead).at j).refs i=false:=by
 rw[iA];split
 ·simp[AV.refs]
 rw[hv,Bool.and_true];cases hr:(S.at j).refs i with
 |true=>simp[AV.refs]
 |false=>exact hr
theorem afh (h:a6 σ w0 W0 Z H S a w) {o:Oper} {x:Operand} (ho:o.op=.assign x) (e:Q6 Θ S o.dst o.type x=some (true,S')):rq P w0 W0 Z H S' a o.dst w (execOp a.eval o):=by
 have dp:∀ w2,Ext w w2->(execOp a.eval o).run P w2=.ok (.value (a.eval x)) w2:=λw2 _=>by simp only[execOp,ho];rfl
 unfold Q6 at e;split at e;case h_2=>
  split at e
  ·injection e with e
   injection e with _ e
   subst e
   exact dX h dp trivial
  ·cases e
 rename_i av jU;have hh:=bM h jU;split at e
 ·-- a value of a temporary
  rename_i d i b ex hd
  cases hk:b.m.b5 with
  |true=>
   rw[hk] at e
   simp only[cond_true,Option.some.injEq,Prod.mk.injEq,true_and] at e
   subst e
   obtain⟨cs,h1,h2⟩:=hh
   exact dX h dp ⟨cs,h1,CG hk (nj _ hk h2)⟩
  |false=>
   rw[hk] at e
   simp only[cond_false] at e
   split at e
   case h_2=>cases e
   cases hdi:(Nat.beq d i|| !Nat.blt d S.length) with
   |true=>rw[hdi] at e;cases e
   |false=>
   rw[hdi] at e
   simp only[cond_false,Option.some.injEq,Prod.mk.injEq,true_and] at e
   subst e
   simp only[Bool.or_eq_false_iff,Bool.not_eq_false'] at hdi
   have aqi:d≠i:=λe=>by rw[e,Nat.beq_refl] at hdi;cases hdi.1
   have Uo:d<S.length:=Nat.lt_of_succ_le (Nat.le_of_ble_eq_true hdi.2)
   obtain⟨cs,h1,h2⟩:=hh
   simp only[St.jT,Option.some.injEq] at jU
   have Uh:i<S.length:=kT (by rw[jU];exact λe=>by cases e)
   have hp:=h.vX i
   have hk:pO σ (vX σ S.length i) S.length (amy σ (.tmp i)):=pO.vX σ Uh (λg hg=>by obtain⟨j,hj,hg⟩:=hg;injection hj with hj;subst hj;exact hg)
   obtain⟨v2,hr2,iB,h3⟩:=De (P:=P) (dst:=some d) (n:=S.length) hp hk (bK _ _ _) dp h1 h2
   have X5:=hr2 w (Ext.refl w)
   rw[dp w (Ext.refl w)] at X5
   injection X5 with e1 e2
   injection e1 with e1
   subst e1
   refine⟨a.eval (.tmp i),dp,iB,?_⟩
   rw[hd]
   refine h3.setAt (λj _=>ag5 _ d b [] i (afg S i (by rw[jU];rfl)) j) ?_
   have htm:cn (a.put (some d) (a.eval (.tmp i))) i=cn a i:=by rw[Om,if_neg (λe=>aqi e.1.symm)]
   have htd:cn (a.put (some d) (a.eval (.tmp i))) d=cn a i:=by rw[Om,if_pos ⟨rfl,by rw[←h.len];exact Uo⟩];rfl
   refine⟨b,cs,cs,⟨⟨[],?_,λq hq=>by simp at hq⟩,trivial,⟨b,rfl,rfl⟩,by rw[htd];exact h1⟩,rfl,by rw[htm];exact h1⟩
   rw[eH,if_neg (λe=>aqi e.1),iA,if_pos ⟨rfl,by rw[bK];exact Uo⟩]
   rfl
 ·-- another value
  rename_i b ex wU
  cases hk:b.m.b5 with
  |true=>
   rw[hk] at e
   simp only[cond_true,Option.some.injEq,Prod.mk.injEq,true_and] at e
   subst e
   obtain⟨cs,h1,h2⟩:=hh
   exact dX h dp ⟨cs,h1,CG hk (nj _ hk h2)⟩
  |false=>
   rw[hk] at e
   simp only[cond_false] at e
   split at e
   case h_2=>cases e
   simp only[Option.some.injEq,Prod.mk.injEq,true_and] at e
   subst e
   obtain⟨cs,h1,h2⟩:=hh
   exact dX h dp ⟨cs,h1,aG (aU.refl _ _) _ (λ_ _ _=>rfl) (λg hg _=>by obtain⟨i,hi,_⟩:=hg;cases hi) (λ_ h=>h) h2⟩
 ·rename_i d t s hd;cases On:Nat.beq s d with
  |true=>rw[On] at e;cases e
  |false=>rw[On] at e;simp only[cond_false,Option.some.injEq,Prod.mk.injEq,true_and] at e;subst e;exact dX h dp hh
 ·rename_i d f c hd;cases On:AV.refs d (.vY f c) with
  |true=>rw[On] at e;cases e
  |false=>rw[On] at e;simp only[cond_false,Option.some.injEq,Prod.mk.injEq,true_and] at e;subst e;exact dX h dp hh
 ·simp only[Option.some.injEq,Prod.mk.injEq,true_and] at e;subst e;exact dX h dp hh
 split at e;case h_2=>cases e
 rename_i b S1 hb;simp only[Option.some.injEq,Prod.mk.injEq,true_and] at e;subst e;obtain⟨bU,cs,ow,h1,hm,hM,hk,hn⟩:=lV h jU hb;exact De h1 hk hn dp hm hM
end Go.Pv
namespace Go.Pv
open List Int IntKind
variable {P:Program} {w w':World} {A A' Wr:Nat->Prop} {H:Nat->Value} {tm FP:Nat->Value} {S S' S1:St} {σ bU iB:Nat->Option Nat} {w0:World} {W0 Z:Nat->Prop} {a:Act} {own:Nat->Prop} {v:Value} {Θ:fA} {dst:Option Nat}
theorem abt (h:a6 σ w0 W0 Z H S a w) {o:Oper} {T:TypeId} {r:Option Operand} (ho:o.op=.makeMap T r) (e:Oh S o.dst T r=some (true,S')):L9 P w0 W0 Z H S' a o.dst w (execOp a.eval o):=by
 unfold Oh at e;split at e;case h_2=>cases e
 simp only[Option.some.injEq,Prod.mk.injEq,true_and] at e;subst e;refine⟨w.alloc (.map #[] 0),.map (some w.heap.size),?_,λg hg=>heap_alloc_old w _ g hg,_,h.Wn (b:=⟨.mp,.o T none .k,[]⟩) (cs:=[.map (some w.heap.size)]) (ow:=λg=>g=w.heap.size) (A':=λg=>Av σ Z g∨g=w.heap.size) (λg hg=>heap_alloc_old w _ g hg) (h.fr.alloc _) (λg hg=>?_) (λg hg hx=>hx) (by simp[ah,isAgg]) ?_⟩
 ·have hr:(Instr.makeMap T none).run P w=.ok (.map (some w.heap.size)) (w.alloc (.map #[] 0)):=rfl;simp[execOp,ho,hr]
 ·subst hg;exact⟨by simp only[World.alloc,Array.size_push];omega,.inr (Nat.le_refl _)⟩
 simp only[M];exact .inr (.inr ⟨T,none,w.heap.size,#[],0,rfl,rfl,λh hh=>(by cases hh),rfl,heap_alloc_new w _,rfl,by simp,λq hq=>by simp at hq⟩)
theorem ag6 {k:List Int} (h:Qg k=true):∃ a b,k=[a,b]/\(Lit.int .i64 a).wf=true/\(Lit.int .i64 b).wf=true:=by
 unfold Qg at h
 rw[Bool.and_eq_true] at h
 have h1:=Nat.eq_of_beq_eq_true h.1
 match k,h1 with
 |[a,b],_=>
  have h2:=h.2
  simp only[List.all_cons,List.all_nil,Bool.and_true,Bool.and_eq_true,decide_eq_true_eq] at h2
  refine⟨a,b,rfl,?_,?_⟩<;>simp[Lit.wf,IntKind.min,IntKind.max,IntKind.signed,IntKind.bits]<;>omega
theorem ag7 {k k':List Int} (h:Ez k=Ez k'):k=k':=by unfold Ez at h;injection h with h;have:=congrArg Array.toList h;simp only at this;exact(List.map_inj_right (λa b h=>by injection h)).1 this
structure asX (P:Program) (T:TypeId):Prop where
 out:∃ k e t,P.underlying T=some (.map k e)/\WideMaps.ArrKey P k t 2/\P.underlying t=some (.int .i64)/\(∃ m,P.types.size=m+1)/\∃ inf,P.info? e=some inf/\inf.zero=some (.bool false)
theorem aqj (hT:eA P Θ=true) {T:TypeId} (h:Θ.is T .mp=true):asX P T:=by obtain⟨i,hi,ht⟩:=jW h;obtain⟨_,hu,rfl⟩:=fJ hT hi;exact⟨anC hu ht⟩
theorem Wz {k t:TypeId} (hA:WideMaps.ArrKey P k t 2) (ht:P.underlying t=some (.int .i64)) (hs:∃ m,P.types.size=m+1) {x:List Int} (hx:Qg x=true):∃ l,Go.keyOf P k (Ez x)=some l:=by obtain⟨a,b,rfl,h1,h2⟩:=ag6 hx;exact⟨_,WideMaps.keyOf_pair hA ht hs h1 h2⟩
theorem PM:∀ {x:List (List Int×Bool)} {k:List Int},(∀ q∈x,q.1≠k)->qW x k=none
 |[],_,_=>rfl
 |q::r,k,h=>by simp only[qW,decide_eq_false (h q (by simp)),cond_false];exact PM λq hq=>h q (by simp[hq])
theorem Vi:∀ {x:List (List Int×Bool)} {k:List Int} {j:Nat} {b:Bool},(x.map (·.1)).Nodup->x[j]?=some (k,b)->qW x k=some b
 |[],_,_,_,_,h=>by simp at h
 |q::r,k,0,b,_,h=>by simp only[List.getElem?_cons_zero,Option.some.injEq] at h;subst h;simp[qW]
 |q::r,k,j+1,b,hn,h=>by simp only[List.map_cons,List.nodup_cons] at hn;simp only[List.getElem?_cons_succ] at h;have wU:q.1≠k:=λe=>hn.1 (by rw[e];exact List.mem_map.2 ⟨_,List.mem_of_getElem? h,rfl⟩);simp only[qW,decide_eq_false wU,cond_false];exact Vi hn.2 h
theorem PN:∀ {x:List (List Int×Bool)} {k:List Int} {b:Bool},(∀ q∈x,q.1≠k)->tP x k b=x++[(k,b)]
 |[],_,_,_=>rfl
 |q::r,k,b,h=>by simp only[tP,decide_eq_false (h q (by simp)),cond_false,List.cons_append];rw[PN λq hq=>h q (by simp[hq])]
theorem Vj:∀ {x:List (List Int×Bool)} {k:List Int} {j:Nat} {b0 b:Bool},(x.map (·.1)).Nodup->x[j]?=some (k,b0)->tP x k b=x.set j (k,b)
 |[],_,_,_,_,_,h=>by simp at h
 |q::r,k,0,b0,b,_,h=>by simp only[List.getElem?_cons_zero,Option.some.injEq] at h;subst h;simp[tP]
 |q::r,k,j+1,b0,b,hn,h=>by simp only[List.map_cons,List.nodup_cons] at hn;simp only[List.getElem?_cons_succ] at h;have wU:q.1≠k:=λe=>hn.1 (by rw[e];exact List.mem_map.2 ⟨_,List.mem_of_getElem? h,rfl⟩);simp only[tP,decide_eq_false wU,cond_false,List.set_cons_succ];rw[Vj hn.2 h]
theorem YK {k t:TypeId} (hA:WideMaps.ArrKey P k t 2) (ht:P.underlying t=some (.int .i64)) (hs:∃ m,P.types.size=m+1) {es:Array MapEntry} {x:List (List Int×Bool)} (hm:Q5 es x) {q:List Int} (hq:Qg q=true) (w:World): ((Instr.findKey k (Ez q) es.toList).run P w=.ok none w/\∀ p∈x,p.1≠q)∨∃ j e0 b,(Instr.findKey k (Ez q) es.toList).run P w=.ok (some (j,.bool b)) w/\es[j]?=some e0/\e0.key=Ez q/\x[j]?=some (q,b):=by
 obtain⟨h1,h2,h3⟩:=hm;obtain⟨l,hl⟩:=Wz hA ht hs hq;have iT:∀ (j:Nat) (e0:MapEntry),es.toList[j]?=some e0->∃ p,x[j]?=some p/\e0.key=Ez p.1/\e0.val=.bool p.2:=λj e0 hj=>by have:=congrArg (λl:List (Value×Value)=>l[j]?) h1;simp only[List.getElem?_map,hj,Option.map_some] at this;obtain⟨p,hp,hpe⟩:=Option.map_eq_some_iff.1 this.symm;injection hpe with e1 e2;exact⟨p,hp,e1.symm,e2.symm⟩
 have ag8:∀ e0∈es.toList,∃ l,Go.keyOf P k e0.key=some l:=λe0 he=>by obtain⟨j,hj⟩:=List.mem_iff_getElem?.1 he;obtain⟨p,hp,hk,_⟩:=iT j e0 hj;rw[hk];exact Wz hA ht hs (h3 p (List.mem_of_getElem? hp))
 rcases hA.law.find w hl es.toList ag8 with⟨a1,a2⟩ |⟨j,e0,a1,a2,a3⟩
 ·refine .inl ⟨a1,λp hp e=>?_⟩;obtain⟨j,hj⟩:=List.mem_iff_getElem?.1 hp;have:=congrArg (λl:List (Value×Value)=>l[j]?) h1;simp only[List.getElem?_map,hj,Option.map_some] at this;obtain⟨e0,he0,hee⟩:=Option.map_eq_some_iff.1 this;injection hee with e1 e2;exact a2 e0 (List.mem_of_getElem? he0) (by rw[e1,e])
 obtain⟨p,hp,hk,hv⟩:=iT j e0 a2;have hpq:p.1=q:=ag7 (hk.symm.trans a3);rw[hv] at a1;exact .inr ⟨j,e0,p.2,a1,by simpa using a2,a3,by rw[hp,←hpq]⟩
theorem Iq {k t:TypeId} (hA:WideMaps.ArrKey P k t 2) (ht:P.underlying t=some (.int .i64)) (hs:∃ m,P.types.size=m+1) {q:List Int} (hq:Qg q=true) (w:World) (em:Bool):(Instr.checkKey em 10000 k (Ez q)).run P w=.ok () w:=by obtain⟨l,hl⟩:=Wz hA ht hs hq;exact hA.law.check w em hl
theorem afi {k t:TypeId} (hA:WideMaps.ArrKey P k t 2) (ht:P.underlying t=some (.int .i64)) (hs:∃ m,P.types.size=m+1) {q:List Int} (hq:Qg q=true) (w:World):(Instr.keyThatStays (Ez q) (Ez q)).run P w=.ok (Ez q) w:=by obtain⟨l,hl⟩:=Wz hA ht hs hq;exact hA.law.stays w hl
theorem adE {n:Nat} {k:List Int} {v:Value} {cs:List Value} (hm:ah (.arr n (.int .i64)) v cs) (hk:K w A (.arr n (.int .i64)) k cs):v=Ez k:=by
 simp only[K] at hk;obtain⟨l9,rfl,h1,h2,h3⟩:=hk;have e:l9=k.map λx=>[Value.int .i64 x]:=by
  apply List.ext_getElem
  ·rw[List.length_map,h1];exact h2.symm
  intro j hj hj';rw[List.getElem_map];exact h3 j (by simpa using hj') hj
 simp only[ah,isAgg,if_true] at hm;rw[hm,e];have:∀ k:List Int,(k.map λx=>[Value.int .i64 x]).flatten=k.map (Value.int .i64):=λk=>by
  induction k with
  |nil=>rfl
  |cons a r ih=>simp[ih]
 rw[this];rfl
theorem afj (hT:eA P Θ=true) (h:a6 σ w0 W0 Z H S a w) {o:Oper} {T:TypeId} {x y:Operand} {ok:Bool} (ho:o.op=.lookup T x y ok) (e:Q9 Θ S o.dst T x y ok=some (true,S')):rq P w0 W0 Z H S' a o.dst w (execOp a.eval o):=by
 unfold Q9 at e;split at e;case h_2=>cases e
 rename_i m xs n m' k hx hy;cases hc:Θ.is T .mp with
 |false=>rw[hc] at e;cases e
 |true=>
  rw[hc] at e;simp only[cond_true,Option.some.injEq,Prod.mk.injEq] at e;obtain⟨hk,rfl⟩:=e;obtain⟨cs,h1,h2,_⟩:=kQ h hx;obtain⟨fH,h3,h4,_⟩:=kQ h hy;have hy':=adE h3 h4;simp only[K] at h2;obtain⟨g,es,c,rfl,_,hw,hm⟩:=h2;simp only[ah,isAgg] at h1;have GM:a.eval x=.map (some g):=(by simpa using h1.symm);obtain⟨kt,et,t,hu,hA,ht,hs,inf,hi,hz⟩:=(aqj hT hc).out;have du:=bh hw;have run:∀ w2,Ext w w2->(execOp a.eval o).run P w2=.ok (.value (.tuple #[.bool ((qW xs k).getD false),.bool (qW xs k).isSome])) w2:=λw2 BF=>by
   have hb:=(BF g du).trans hw;have hzr:(zeroValue et).run P w2=.ok (.bool false) w2:=(by simp[zeroValue,typeInfo,hi,hz]);rcases YK hA ht hs hm hk w2 with⟨a1,a2⟩ |⟨j,e0,b,a1,a2,a3,a4⟩
   ·rw[PM a2];simp[execOp,ho,GM,hy',Instr.lookup,run_underlying hu,MapKept.run_getObj_map hb,Iq hA ht hs hk w2,a1,hzr,Result.andThen]
   rw[Vi hm.2.1 a4];simp[execOp,ho,GM,hy',Instr.lookup,run_underlying hu,MapKept.run_getObj_map hb,Iq hA ht hs hk w2,a1,Result.andThen]
  refine dX h run ⟨[.bool ((qW xs k).getD false),.bool (qW xs k).isSome],λ_=>0,rfl,rfl,λj b hj=>?_⟩;match j with
 |0=>simp only[List.getElem?_cons_zero,Option.some.injEq] at hj;subst hj;exact⟨_,[.bool ((qW xs k).getD false)],rfl,by simp[ah,isAgg],by simp[M,K,Md.b5]⟩
 |1=>simp only[List.getElem?_cons_succ,List.getElem?_cons_zero,Option.some.injEq] at hj;subst hj;exact⟨_,[.bool (qW xs k).isSome],rfl,by simp[ah,isAgg],by simp[M,K,Md.b5]⟩
 |j+2=>simp at hj
theorem Vk {es:Array MapEntry} {x:List (List Int×Bool)} (hm:Q5 es x) {q:List Int} {b:Bool} (hq:Qg q=true) (c:Nat): ((∀ p∈x,p.1≠q)->Q5 (es.push ⟨Ez q,.bool b,c⟩) (tP x q b))/\∀ j e0 b0,es[j]?=some e0->x[j]?=some (q,b0)->Q5 (es.modify j λe'=>{ e' with key:=Ez q,val:=.bool b }) (tP x q b):=by
 obtain⟨h1,h2,h3⟩:=hm;refine⟨λhn=>?_,λj e0 b0 he hx=>?_⟩
 ·rw[PN hn];refine⟨by simp[h1],?_,λp hp=>?_⟩
  ·rw[List.map_append,List.nodup_append];refine⟨h2,by simp,λp hp p' hp'=>?_⟩;simp only[List.map_cons,List.map_nil,List.mem_singleton] at hp';subst hp';obtain⟨p0,hp0,rfl⟩:=List.mem_map.1 hp;exact hn p0 hp0
  rcases List.mem_append.1 hp with hp |hp
  ·exact h3 p hp
  simp only[List.mem_singleton] at hp;subst hp;exact hq
 rw[Vj h2 hx];have FU:j<x.length:=(List.getElem?_eq_some_iff.1 hx).1;have hxj:x[j]=(q,b0):=(List.getElem?_eq_some_iff.1 hx).2;have ag8:(x.set j (q,b)).map (·.1)=x.map (·.1):=by
  rw[List.map_set];apply List.ext_getElem?;intro i;rw[List.getElem?_set];by_cases Ev:j=i
  ·subst Ev;simp[FU,hxj]
  rw[if_neg Ev]
 refine⟨?_,by rw[ag8];exact h2,λp hp=>?_⟩
 ·rw[Array.toList_modify,ChangeMaps.modify_eq_set _ _ _ _ (by simpa using he),List.map_set,List.map_set,h1]
 rcases List.mem_or_eq_of_mem_set hp with hp |rfl
 ·exact h3 p hp
 exact hq
theorem Fr.setBlock (h:Fr w0 W0 w) {g:Nat} {x:Obj} {es:Array MapEntry} {c:Nat} (hw:w.heap[g]?=some (.map es c)) (hg:w0.heap.size<=g∨W0 g):Fr w0 W0 (ChangeMaps.setBlock w g x):=by refine⟨h.os,h.tape,h.output,by simp[ChangeMaps.setBlock];exact h.size,λk hk hn=>?_⟩;rw[ChangeMaps.heap_setBlock_other hw _ (λe=>by subst e;rcases hg with hg |hg;omega;exact hn hg)];exact h.block k hk hn
theorem WA (hT:eA P Θ=true) (h:a6 σ w0 W0 Z H S a w) {o:Oper} {T:TypeId} {x y z:Operand} (ho:o.op=.mapUpdate T x y z) (xZ:o.dst=none) (e:GQ Θ S T x y z=some (true,S')):RB P w0 W0 Z H S' a o.dst w (execOp a.eval o):=by
 unfold GQ at e;split at e;case h_2=>cases e
 rename_i s n m' k m'' b hx hy hz;split at e;case h_2=>cases e
 rename_i T' tag me xs hs;cases hc:Θ.is T .mp with
 |false=>rw[hc] at e;cases e
 |true=>
 rw[hc] at e;simp only[cond_true,Option.some.injEq,Prod.mk.injEq] at e;obtain⟨hk,e⟩:=e;have hal:=bM h hx;obtain⟨r,dw,cs,hr,qk,hmv⟩:=hal;obtain⟨⟨ex,h1,_⟩,_,_,Mi⟩:=hr;rw[hs] at h1;injection h1 with h1 h1';subst h1 h1';simp only[aH,Option.some.injEq] at qk;subst qk;have hh:=h.holds s;rw[hs] at hh;obtain⟨cs1,hm1,hM⟩:=hh;obtain rfl:=eG Mi hm1;simp only[M] at hM;rcases hM with⟨h2,_⟩ |⟨h2,_⟩ |⟨T2,Yy,g,es,c,e1,rfl,afc,hg,hw,hm⟩
 ·simp at h2
 ·simp[Md.b5] at h2
 injection e1 with e1 e2 e3;subst e1 e2 e3;simp only[ah,isAgg] at hmv;have GM:a.eval x=.map (some g):=by simpa using hmv.symm
 obtain⟨fH,h3,h4,_⟩:=kQ h hy;have hy':=adE h3 h4;obtain⟨atU,h5,h6,_⟩:=kQ h hz;have hz':=gz h5 h6;obtain⟨kt,et,t,hu,hA,ht,pL,inf,hi,hzz⟩:=(aqj hT hc).out;obtain⟨es',c',dp,hm'⟩:∃ es' c',(Instr.mapUpdate T (.map (some g)) (Ez k) (.bool b)).run P w=.ok () (ChangeMaps.setBlock w g (.map es' c'))/\Q5 es' (tP xs k b):=by
  rcases YK hA ht pL hm hk w with⟨a1,a2⟩ |⟨j,e0,b0,a1,a2,a3,a4⟩
  ·refine⟨es.push ⟨Ez k,.bool b,c⟩,c+1,?_,(Vk hm hk c).1 a2⟩;simp[Instr.mapUpdate,run_underlying hu,MapKept.run_getObj_map hw,Iq hA ht pL hk w,a1,MapKept.run_setObj_map _ hw,Result.andThen,ChangeMaps.setBlock]
  refine⟨es.modify j λe'=>{ e' with key:=Ez k,val:=.bool b },c,?_,(Vk hm hk c).2 j e0 b0 a2 a4⟩;simp[Instr.mapUpdate,run_underlying hu,MapKept.run_getObj_map hw,Iq hA ht pL hk w,a1,a2,a3,afi hA ht pL hk w,MapKept.run_setObj_map _ hw,Result.andThen,ChangeMaps.setBlock]
 have Qj:s<S.length:=kT (by rw[hs];exact λe=>by cases e);have mf:∀ k',k'≠g->(ChangeMaps.setBlock w g (.map es' c')).heap[k']?=w.heap[k']?:=λk' mc=>ChangeMaps.heap_setBlock_other hw _ mc;have tQ:(ChangeMaps.setBlock w g (.map es' c')).heap[g]?=some (.map es' c'):=ChangeMaps.heap_setBlock_same hw _;have cP:aU w (ChangeMaps.setBlock w g (.map es' c')) (Av σ Z) (Av σ Z):=⟨λk' mc _=>mf k' (λe'=>mc (by rw[e'];exact .inl ⟨s,hg⟩)),λk' _ mc=>mc⟩;have Mf:M (ChangeMaps.setBlock w g (.map es' c')) (Av σ Z) H .mp (.o T' tag .k) (tP xs k b) [.map (some g)] (λg'=>σ g'=some s) []:=by simp only[M];exact .inr (.inr ⟨T',tag,g,es',c',rfl,rfl,afc,hg,tQ,hm'⟩)
 have iT:∀ i,S'.at i=if i=s then .v ⟨.mp,.o T' tag .k,tP xs k b⟩ [] else bif (S.at i).kS s then .dead else S.at i:=by
  intro i;rw[←e,eH];by_cases hi:i=s
  ·rw[if_pos hi,if_pos ⟨hi,by simp[St.weaken];exact Qj⟩]
  rw[if_neg hi,if_neg (λh=>hi h.1),s6]
 rw[xZ];refine⟨ChangeMaps.setBlock w g (.map es' c'),undef,.inr ⟨rfl,?_⟩,σ,?_⟩
 ·simp only[execOp,ho,GM,hy',hz',Sem.run_bind,dp,Result.andThen_ok];rfl
 show a6 σ w0 W0 Z H S' a (ChangeMaps.setBlock w g (.map es' c'));refine⟨by rw[←e];simp[St.weaken];exact h.len,h.defers,h.fr.setBlock hw (h.new g s hg),h.new,λg' i bq=>?_,h.old,λi=>?_⟩
 ·simp[ChangeMaps.setBlock];exact h.lt g' i bq
 rw[iT i];by_cases Vd:i=s
 ·subst Vd;rw[if_pos rfl];exact⟨_,Mi,Mf⟩
 rw[if_neg Vd];cases Eu:(S.at i).kS s with
 |true=>trivial
 |false=>
 simp only[cond_false];refine JH (r:=⟨.mp,.o T' tag .k,xs⟩) (r':=⟨.mp,.o T' tag .k,tP xs k b⟩) (ex:=[]) (Qi:=[]) cP rfl hs (by rw[iT s,if_pos rfl]) (λj r1 ex1 hj hv=>by rw[iT j,if_neg hj,hv];simp[AV.kS]) ⟨_,_,Mi,Mf⟩ (λ_ hq=>hq)
  (λq _ hv=>by
   cases q with
   |nil=>trivial
   |cons st q=>cases st<;>exact hv.elim) (λq b1 hq=>by
   cases q with
   |nil=>exact⟨_,rfl,by injection hq with hq;subst hq;rfl⟩
   |cons st q=>cases st<;>simp[a7] at hq) (λj hj=>⟨_,h.holds j,λg' bq _=>mf g' (λe'=>by subst e';rw[hg] at bq;injection bq with bq;exact hj bq.symm)⟩)
  (λg' bq _=>⟨mf g' (λe'=>by subst e';rw[hg] at bq;injection bq with bq;exact Vd bq.symm),bq⟩) Eu (h.holds i)
theorem afk (hT:eA P Θ=true) (h:a6 σ w0 W0 Z H S a w) {o:Oper} {T:TypeId} {ps:Array (Nat×Operand)} (ho:o.op=.build T ps) (e:LK Θ S o.dst T ps.toList=some (true,S')):wa P w0 W0 Z H S' a o.dst w (execOp a.eval o):=by
 unfold LK at e;split at e;case h_2=>cases e
 rename_i x y i hps hi;cases hc:decide (i.ty=.arr 2 (.int .i64)) with
 |false=>rw[hc] at e;cases e
 |true=>
 rw[hc] at e;simp only[cond_true] at e;have lU:i.ty=.arr 2 (.int .i64):=by simpa using hc
 split at e;case h_2=>cases e
 rename_i m n m' k hx hy;simp only[Option.some.injEq,Prod.mk.injEq,true_and] at e;subst e;obtain⟨cs,h1,h2,_⟩:=kQ h hx;obtain⟨fH,h3,h4,_⟩:=kQ h hy;have GM:=e9 h1 h2;have hy':=e9 h3 h4;obtain⟨gl,hu,Kt⟩:=fJ hT hi;obtain⟨et,hd,het,_⟩:=akA hu lU;rw[Kt] at hd;obtain⟨_,inf,z,i1,i2,_,_,_,i3,i4⟩:=gl;rw[Kt] at i1;obtain⟨asT,j1,j2,_⟩:=qt hT het;have hzc:z.cells=#[.int .i64 0,.int .i64 0]:=by rw[lU] at i4;simp only[ah,isAgg,if_true] at i4;rw[i4];simp[zc,Value.cells]
 have hci:∀ n:Int,(Value.int .i64 n).cells=#[.int .i64 n]:=λ_=>rfl;have asY:ps=#[(0,x),(1,y)]:=by cases ps;simpa using hps
 have run:∀ w2,(execOp a.eval o).run P w2=.ok (.value (.agg #[.int .i64 n,.int .i64 k])) w2:=λw2=>by simp[execOp,ho,asY,GM,hy',Instr.build,zeroValue,typeInfo,i1,i3,run_underlying hd,sizeOf,j1,j2,hzc,Ty.size,Instr.fill,hci,Result.andThen]
 refine dm h run ⟨[.int .i64 n,.int .i64 k],by simp[ah,isAgg],?_⟩;simp only[M,Md.b5,true_and,K];exact⟨[[.int .i64 n],[.int .i64 k]],rfl,rfl,rfl,λj h1 h2=>by
  match j,h1 with
  |0,_=>rfl
  |1,_=>rfl⟩
theorem Vl (hT:eA P Θ=true) (h:a6 σ w0 W0 Z H S a w) {o:Oper} {T:TypeId} {ps:Array (Nat×Operand)} (ho:o.op=.build T ps) (e:(match LJ Θ S o.dst T ps.toList with
  |some r=>some r
  |none=>LK Θ S o.dst T ps.toList)=some (true,S')):wa P w0 W0 Z H S' a o.dst w (execOp a.eval o):=by
 split at e
 ·rename_i r hr
  injection e with e
  subst e
  exact agV hT h ho hr
 ·exact afk hT h ho e
end Go.Pv
namespace Go.Pv
open List Int IntKind
variable {P:Program} {w w':World} {A A' Wr:Nat->Prop} {H:Nat->Value} {tm FP:Nat->Value} {S S' S1:St} {σ bU iB:Nat->Option Nat} {w0:World} {W0 Z:Nat->Prop} {a:Act} {own:Nat->Prop} {v:Value} {Θ:fA} {dst:Option Nat}
theorem ag9 {t:Ty} (h:isAgg t=false):t.size=1:=by cases t<;>simp[isAgg] at h<;>rfl
theorem ag' (hT:eA P Θ=true) (h:a6 σ w0 W0 Z H S a w) {o:Oper} {T:TypeId} {x:Operand} {f:Nat} (ho:o.op=.field T x f) (e:V7 Θ S o.dst T x f=some (true,S')):rq P w0 W0 Z H S' a o.dst w (execOp a.eval o):=by
 unfold V7 at e;split at e;case h_2=>cases e
 rename_i b ex i jU hi;cases hc:(Nat.blt f i.fs.length&&decide (i.ty=b.t)) with
 |false=>rw[hc] at e;cases e
 |true=>
  rw[hc] at e;simp only[cond_true] at e;simp only[Bool.and_eq_true,decide_eq_true_eq] at hc;obtain⟨du,lU⟩:=hc;have du:f<i.fs.length:=Nat.lt_of_succ_le (Nat.le_of_ble_eq_true du);split at e;case h_2=>cases e
  rename_i j;split at e;case h_2=>cases e
  rename_i c hg;simp only[St.jT,Option.some.injEq] at jU;have hh:=h.holds j;rw[jU] at hh;obtain⟨cs,hm,hM⟩:=hh;obtain⟨_,hu,hT0⟩:=fJ hT hi;have hp:=s9 f i.fs.length;obtain⟨pa,pb,hpp⟩:=L5 (agK du) hp hg;obtain⟨fs,f1,f2,f3,_⟩:=As hu (lU.trans hpp);rw[hT0] at f1;have OF:fs.toList.length=i.fs.length:=by rw[←f2,List.length_map]
  have hfs:fs.size=i.fs.length:=(by rw[←OF,Array.length_toList]);obtain⟨fd,hfd⟩:∃ fd,fs[f]?=some fd:=⟨_,Array.getElem?_eq_getElem (by omega)⟩;obtain⟨t,t1,t2,t3,_⟩:=s8 f3 f fd (by rw[Array.getElem?_toList];exact hfd);rw[Nat.zero_add,hfs,lU] at t1 t3;have hct:c.t=t:=(by have:=ET _ hp hg;rw[t1] at this;injection this with this;exact this.symm);subst hct;obtain⟨hlen,akG⟩:=lQ _ hM;have GS:=hY _ hp hg;have WB:aH w (BD f i.fs.length) b.t cs=some ((cs.drop (aE (BD f i.fs.length) b.t)).take c.t.size):=kh _ hp hg hlen;obtain⟨v,hv,dp⟩:∃ v,ah c.t v ((cs.drop (aE (BD f i.fs.length) b.t)).take c.t.size)/\∀ w2,Ext w w2->(execOp a.eval o).run P w2=.ok (.value v) w2:=by
   have tS:a.eval (.tmp j)=.agg cs.toArray:=(by unfold ah at hm;rw[if_pos (by rw[hpp];rfl)] at hm;exact hm);have hag:=abk hT t2;obtain⟨inf,s1,s2,_⟩:=qt hT t2;have hso:∀ w2,(sizeOf fd.type).run P w2=.ok c.t.size w2:=λw2=>(by simp[sizeOf,typeInfo,s1,s2]);cases hca:isAgg c.t with
   |true=>
   refine⟨.agg (cs.toArray.extract (aE (BD f i.fs.length) b.t) (aE (BD f i.fs.length) b.t+c.t.size)),?_,λw2 _=>?_⟩
   ·unfold ah;rw[if_pos hca];congr 1;apply Array.toList_inj.1;rw[Array.toList_extract,List.toList_toArray,List.toList_toArray,List.extract_eq_drop_take'];rw[List.drop_take,Nat.add_sub_cancel_left]
   rw[hca] at hag;have aha:(part fd.type cs.toArray fd.offset).run P w2=.ok (.agg (cs.toArray.extract (aE (BD f i.fs.length) b.t) (aE (BD f i.fs.length) b.t+c.t.size))) w2:=(by unfold part;simp only[Sem.run_bind,hag,Result.andThen_ok,if_true,hso,t3];rfl);simp only[execOp,ho,tS,Instr.field,Sem.run_bind,run_underlying f1,Result.andThen_ok,hfd,asAgg,Sem.run_pure,aha]
   |false=>
   have h1:=ag9 hca;have abl:aE (BD f i.fs.length) b.t<cs.length:=(by omega);refine⟨cs[aE (BD f i.fs.length) b.t],?_,λw2 _=>?_⟩
   ·unfold ah;rw[if_neg (by rw[hca];exact Bool.false_ne_true),h1,List.drop_eq_getElem_cons abl,List.take_succ_cons,List.take_zero]
   rw[hca] at hag;have aha:(part fd.type cs.toArray fd.offset).run P w2=.ok (cs[aE (BD f i.fs.length) b.t]) w2:=(by unfold part;simp only[Sem.run_bind,hag,Result.andThen_ok,if_neg Bool.false_ne_true,t3];rw[List.getElem?_toArray,List.getElem?_eq_getElem abl];rfl);simp only[execOp,ho,tS,Instr.field,Sem.run_bind,run_underlying f1,Result.andThen_ok,hfd,asAgg,Sem.run_pure,aha]
  have hvalid:=rr _ hp hg;cases hk:c.m.b5 with
 |true=>
 rw[hk] at e;simp only[cond_true] at e;split at e;case h_2=>cases e
 simp only[Option.some.injEq,Prod.mk.injEq,true_and] at e;subst e;obtain⟨fH,fp,k1,k2,k3⟩:=focus _ hM (λq hq=>by simp at hq) hvalid hg
 rw[WB] at k1;injection k1 with k1;subst k1;exact dX h dp ⟨_,hv,nu _ (nj _ hk k3)⟩
 |false=>
 rw[hk] at e;simp only[cond_false] at e;split at e;case h_2=>cases e
 rename_i c' PJ;simp only[Option.some.injEq,Prod.mk.injEq,true_and] at e;subst e;obtain⟨r,Qi,q1,q2,q3⟩:=kG PJ;rw[jU] at q1;injection q1 with q1 RF;subst q1 RF;exact dX h dp ⟨b,cs,_,⟨⟨ex,jU,ki q2⟩,hvalid,⟨c,hg,rfl⟩,hm⟩,WB,hv⟩
theorem PO (h:a6 σ w0 W0 Z H S a w):∀ {xs:List Operand} {l:List V6},Q8 S xs=some l->xs.length=l.length/\∀ (j:Nat) (c:V6),l[j]?=some c->∃ u,(xs.map a.eval)[j]?=some u/\Ap w (Av σ Z) (cn a) S c u
 |[],l,e=>by simp only[Q8,Option.some.injEq] at e;subst e;exact⟨rfl,λj c hj=>by simp at hj⟩
 |x::xs,l,e=>by
  simp only[Q8] at e;split at e;case h_2=>cases e
  rename_i c l2 hc hl;simp only[Option.some.injEq] at e;subst e;obtain⟨h1,h2⟩:=PO h hl;refine⟨by simp[h1],λj c' hj=>?_⟩;cases j with
  |succ j=>simpa using h2 j c' (by simpa using hj)
  |zero=>
  simp only[List.getElem?_cons_zero,Option.some.injEq] at hj;subst hj;refine⟨a.eval x,rfl,?_⟩;unfold amt at hc;split at hc;case h_2=>cases hc
  rename_i i;have hh:=h.holds i;split at hc
  ·rename_i t T tag me y ex iT;injection hc with hc;subst hc;rw[iT] at hh;obtain⟨cs,h1,h2⟩:=hh;exact⟨_,cs,cs,⟨⟨ex,iT,λq _ s r e=>by cases q<;>simp at e⟩,trivial,⟨_,rfl,rfl⟩,h1⟩,rfl,h1⟩
  ·rename_i t y ex iT;injection hc with hc;subst hc;rw[iT] at hh;obtain⟨cs,h1,h2⟩:=hh;have h1':cs=[cn a i]:=by simpa[ah,isAgg] using h1
   subst h1';simp only[M] at h2;rcases h2 with⟨_,hx,_⟩ |⟨_,h2⟩ |⟨T,tag,me,g,cur,hx,_⟩
   ·simp[Md.b5] at hx
   ·exact h2
   cases hx
  ·rename_i t s p iT;injection hc with hc;subst hc;rw[iT] at hh;exact hh
  cases hc
theorem YL (h:a6 σ w0 W0 Z H S a w) {o:Oper} {f:FuncId} {first fc:Array Operand} (ho:o.op=.makeFunc (.func f) first fc) (e:Kk S o.dst f first.toList fc.toList=some (true,S')):rq P w0 W0 Z H S' a o.dst w (execOp a.eval o):=by
 unfold Kk at e;split at e;case h_2=>cases e
 rename_i l hf hl;split at e;case h_2=>cases e
 rename_i d hd;cases hr:AV.refs d (.vY f l) with
 |true=>rw[hr] at e;cases e
 |false=>
 rw[hr] at e;simp only[cond_false,Option.some.injEq,Prod.mk.injEq,true_and] at e;subst e;obtain⟨h1,h2⟩:=PO h hl;have hfe:first=#[]:=by apply Array.toList_inj.1;rw[hf]
 refine dX (v:=.func (.func f) #[] (fc.map a.eval)) h (λw2 _=>by simp[execOp,ho,Instr.makeFunc,hfe]) ⟨fc.toList.map a.eval,?_,by rw[List.length_map,h1],h2⟩;congr 1;apply Array.toList_inj.1;simp
theorem YM (h:a6 σ w0 W0 Z H S a w) {o:Oper} {x:Operand} (ho:o.op=.move x) (e:EB Θ S o.dst o.type x=some (true,S')):wa P w0 W0 Z H S' a o.dst w (execOp a.eval o):=by
 by_cases hnt:∃ l,S.jT Θ o.type x=some (.Ih l)
 rotate_left
 ·exact akB h ho (λl hl=>hnt ⟨l,hl⟩) e
 obtain⟨l,hl⟩:=hnt
 unfold EB at e
 rw[hl] at e
 simp only at e
 split at e
 case h_2=>cases e
 rename_i d i hd
 cases hc:(Nat.beq d i|| !Nat.blt d S.length) with
 |true=>rw[hc] at e;cases e
 |false=>
  rw[hc] at e
  simp only[cond_false,Option.some.injEq,Prod.mk.injEq,true_and] at e
  subst e
  have iT:S.at i=.Ih l:=by simpa[St.jT] using hl
  have hh:=h.holds i
  rw[iT] at hh
  obtain⟨vs,τ,h1,h2,h3⟩:=hh
  refine⟨cn a i,λw2=>by simp only[execOp,ho];rfl,?_⟩
  rw[hd]
  have hp:=h.vX i
  have hgo:=hp.adz (dst:=some d) (v:=cn a i) (av:=.Ih l) (ow:=λg=>σ g=some i) (w':=w) (Nat.le_refl _) (λ_ _ _=>rfl) h.fr (λg hg=>⟨h.lt g i hg,.inl ⟨S.length,by rw[bK];exact Nat.le_refl _,by unfold vX;rw[if_pos hg]⟩⟩) (λd' hd' q1 q2=>?_)
  ·exact⟨_,hgo⟩
  ·refine⟨vs,τ,h1,h2,λj b hb=>?_⟩
   obtain⟨u,cs,u1,u2,u3⟩:=h3 j b hb
   refine⟨u,cs,u1,u2,aG ⟨λ_ _ _=>rfl,λg hg hx=>?_⟩ _ (λ_ _ _=>rfl) (λg hg _=>⟨q1 g hg.1,hg.2⟩) (λ_ h=>h) u3⟩
   rcases q2 g hx with q |q
   ·exact ady.1 q
   ·exact .inl ⟨i,q⟩
theorem ahb (hT:eA P Θ=true) (h:a6 σ w0 W0 Z H S a w) {hn:Hn} {o:Oper} (hq:quiet o.op=true) (e:ev Θ hn S o=some (true,S')):rq P w0 W0 Z H S' a o.dst w (execOp a.eval o):=by
 unfold ev at e;split at e;case h_1 x ho=>exact(YM h ho e).q
 case h_2 x ho=>exact afh h ho e
 case h_3 c x y ho=>exact akC h ho e
 case h_4 T ho=>rw[ho] at hq;cases hq
 case h_5 T x ho=>rw[ho] at hq;cases hq
 case h_6 T ps ho=>exact(Vl hT h ho e).q
 case h_7 T n ps ho=>rw[ho] at hq;cases hq
 case h_8 T x ho=>exact akD hT h ho e
 case h_9 T x y ho=>rw[ho] at hq;cases hq
 case h_10 x ho=>exact Yw h ho e
 case h_11 T x f ho=>exact(L6 hT h ho e).q
 case h_12 T x f ho=>exact ag' hT h ho e
 case h_13 T x ix ho=>exact(L7 hT h ho e).q
 case h_14 T x ix ho=>exact agG hT h ho e
 case h_15 x j ho=>exact(RU h ho e).q
 case h_16 T x lo hi mx ho=>exact(Yz hT h ho e).q
 case h_17 T T' x ho=>exact Ys hT h ho e
 case h_18 op T x y p ho=>exact(agF hT h ho e).q
 case h_19 op T x ho=>exact ap6 h ho e
 case h_20 T l c ho=>rw[ho] at hq;cases hq
 case h_21 f first fc ho=>exact YL h ho e
 case h_22 as ts ho=>exact(agH hT h ho e).q
 case h_27=>cases e
 all_goals (rename_i ho;rw[ho] at hq;cases hq)
def abu:Op->Bool
 | .extract ..=>true | .indexAddr ..=>true | .binOp ..=>true | .slice ..=>true | .move _=>true | .convert ..=>true | .fieldAddr ..=>true | .build ..=>true | .call { callee:=.builtin .len,.. }=>true |_=>false
theorem anT (hT:eA P Θ=true) (h:a6 σ w0 W0 Z H S a w) {hn:Hn} {o:Oper} (hq:abu o.op=true) (UX:(match o.op with
 | .convert _ T' _=>(match Θ.find T' with
  |some i=>(match i.ty with
   | .int _=>true
   |_=>false)
  |none=>false)
 |_=>true)=true) (e:ev Θ hn S o=some (true,S')):wa P w0 W0 Z H S' a o.dst w (execOp a.eval o):=by
 unfold abu at hq
 split at hq
 ·rename_i x j ho
  unfold ev at e
  rw[ho] at e
  exact RU h ho e
 ·rename_i T x ix ho
  unfold ev at e
  rw[ho] at e
  exact L7 hT h ho e
 ·rename_i op T x y T' ho
  unfold ev at e
  rw[ho] at e
  exact agF hT h ho e
 ·rename_i T x lo hi mx ho
  unfold ev at e
  rw[ho] at e
  exact Yz hT h ho e
 ·rename_i x ho
  unfold ev at e
  rw[ho] at e
  exact YM h ho e
 ·rename_i T T' x ho
  unfold ev at e
  rw[ho] at e
  rw[ho] at UX
  exact RD hT h ho UX e
 ·rename_i T x f ho
  unfold ev at e
  rw[ho] at e
  exact L6 hT h ho e
 ·rename_i T ps ho
  unfold ev at e
  rw[ho] at e
  exact Vl hT h ho e
 ·rename_i as ts ho
  unfold ev at e
  rw[ho] at e
  exact agH hT h ho e
 ·cases hq
def YN:Op->Bool
 | .alloc _=>true | .box ..=>true | .buildSlice ..=>true | .makeSlice ..=>true | .makeMap ..=>true |o=>quiet o
theorem ahc (hT:eA P Θ=true) (h:a6 σ w0 W0 Z H S a w) {hn:Hn} {o:Oper} (hq:YN o.op=true) (e:ev Θ hn S o=some (true,S')):L9 P w0 W0 Z H S' a o.dst w (execOp a.eval o):=by
 cases hqq:quiet o.op with
 |true=>exact(ahb hT h hqq e).Qh
 |false=>
 unfold ev at e;split at e;case h_4 T ho=>exact agP hT h ho e
 case h_5 T x ho=>exact anK hT h ho e
 case h_7 T n ps ho=>exact Un hT h ho e
 case h_20 T l c ho=>exact Wu hT h ho e
 case h_27=>cases e
 case h_9 T x y ho=>rw[ho] at hq;cases hq
 case h_23 as ts ho=>rw[ho] at hq;cases hq
 case h_24 T r ho=>exact abt h ho e
 case h_25 T x y ok ho=>rw[ho] at hq;cases hq
 case h_26 T x y z ho=>rw[ho] at hq;cases hq
 all_goals (rename_i ho;rw[ho] at hqq;cases hqq)
theorem YO (h:a6 σ w0 W0 Z H S a w) {S1:St} {T:TypeId} {y:Operand} {s:Sem Next} {dst:Option Nat} (g:RB P w0 W0 Z H S1 a dst w s) (hd:dst=none):RB P w0 W0 Z H (ED Θ S S1 T y) a dst w s:=by
 subst hd;unfold ED;split;case h_2=>exact g
 rename_i t0 s0 _;split;case h_2=>exact g
 rename_i t m xs hs hs1;cases hk:m.b5 with
 |true=>exact g
 |false=>
 simp only[cond_false];obtain⟨w',v,h1,ir,h2⟩:=g;refine⟨w',v,h1,?_⟩;have hh:=h.holds s0;rw[hs] at hh;obtain⟨cs,hm,hM⟩:=hh;have qk:∃ A c,cs=[.slice A xs.length c]:=by
  simp only[M] at hM;rcases hM with⟨hn,_⟩ |⟨mc,_⟩ |⟨T',tag,me,A,c,_,rfl,_⟩
  ·simp at hn
  ·rw[hk] at mc;cases mc
  exact⟨A,c,rfl⟩
 have ha:a.put none v=a:=rfl;rw[ha] at h2 ⊢;have h3:=h2.pure (dst:=some s0) (av:=.v ⟨.sl t,m,xs⟩ [[]]) (v:=cn a s0) ⟨cs,hm,by
  simp only[M]
  exact .inl ⟨by simp,hk,qk⟩⟩
 rw[x6] at h3;have he:S1.put (some s0) (.v ⟨.sl t,m,xs⟩ [[]])=S1.set s0 (.v ⟨.sl t,m,xs⟩ [[]]):=by simp only[St.put,hs1];rfl
 rw[he] at h3;exact⟨_,h3⟩
theorem aqk (hT:eA P Θ=true) (h:a6 σ w0 W0 Z H S a w) {hn:Hn} {o:Oper} (e:ev Θ hn S o=some (true,S')):RB P w0 W0 Z H S' a o.dst w (execOp a.eval o):=by
 cases hq:YN o.op with
 |true=>exact(ahc hT h hq e).goes
 |false=>
 unfold ev at e;split at e;case h_9 T x y ho=>
  split at e
  ·rename_i hd
   split at e
   ·rename_i g S1 he
    injection e with e
    injection e with e1 e2
    subst e1 e2
    exact YO h (agS hT h ho hd he) hd
   ·cases e
  ·cases e
 case h_23 as ts ho=>
  split at e
  ·rename_i r hr
   injection e with e
   subst e
   exact aff hT h ho hr
  ·exact abr hT h ho e
 case h_25 T x y ok ho=>exact(afj hT h ho e).goes
 case h_26 T x y z ho=>
  split at e
  ·rename_i hd
   exact WA hT h ho hd e
  ·cases e
 case h_27=>cases e
 all_goals (rename_i ho;rw[ho] at hq;cases hq)
end Go.Pv
namespace Go.Pv
open List Int IntKind
variable {P:Program} {w w':World} {A A' Wr:Nat->Prop} {H:Nat->Value} {tm FP:Nat->Value} {S S' S1:St} {σ bU iB:Nat->Option Nat} {w0:World} {W0 Z:Nat->Prop} {a:Act} {own:Nat->Prop} {v:Value} {Θ:fA} {dst:Option Nat}
def Own (σ:Nat->Option Nat) (g:Nat):Prop:=∃ i,σ g=some i
def PQ (w:World) (A:Nat->Prop) (H:Nat->Value):Arg->Value->(Nat->Prop)->Prop
 | .tv b,v,own=>∃ cs,ah b.t v cs/\M w A H b.t b.m b.x cs own []
 | .fn f fc,v,_=>∃ vs:List Value,v=.func (.func f) #[] vs.toArray/\vs.length=fc.length/\∀ (j:Nat) (c:TV),fc[j]?=some c->∃ u,vs[j]?=some u/\K w A c.t c.x [u]
abbrev Gl:=Nat->Option Obj
structure In (Γ:Gl) (B:Nat->Prop) (H:Nat->Value) (w:World) (σ:Nat->Option Nat) (args:List Arg) (bT:List Value):Prop where
 len:bT.length=args.length
 lt:∀ g i,σ g=some i->i<args.length/\g<w.heap.size
 old:∀ g,B g->σ g=none/\g<w.heap.size
 env:∀ g o,Γ g=some o->σ g=none/\w.heap[g]?=some o
 ok:∀ (j:Nat) (a:Arg),args[j]?=some a->∃ v,bT[j]?=some v/\PQ w (Av σ B) H a v (λg=>σ g=some j)
def adF:List Value->Value
 |[u]=>u
 |vs=>.tuple vs.toArray
structure Out (B:Nat->Prop) (H:Nat->Value) (w w':World) (σ:Nat->Option Nat) (rt:aa) (v:Value):Prop where
 fr:Fr w (Own σ) w'
 res:∃ (ir:Nat->Option Nat) (vs:List Value),v=adF vs/\vs.length=rt.res.length/\(∀ g i,ir g=some i->(w.heap.size<=g∨Own σ g)/\g<w'.heap.size)/\
  (∀ (i:Nat) (b:TV),rt.res[i]?=some b->∃ u cs,vs[i]?=some u/\ah b.t u cs/\M w' (Av ir B) H b.t b.m b.x cs (λg=>ir g=some i) [])/\
  ∀ c,rt.refs=[c]->∃ cs,M w' (Av ir B) H c.t c.m c.x cs (λg=>ir g=some rt.res.length) []
def YP (P:Program) (f:FuncId) (bT:List Value) (w:World) (R:Value->World->Prop):Prop:=((callFunc f bT.toArray).run P w=.ok (.enter f bT.toArray) w/\Calls P f bT.toArray w λ| .returned v,w'=>R v w' |_,_=>False)∨∃ v w',(callFunc f bT.toArray).run P w=.ok (.value v) w'/\R v w'
theorem YP.mono {f:FuncId} {bT:List Value} {R R':Value->World->Prop} (h:YP P f bT w R) (hr:∀ v w',R v w'->R' v w'):YP P f bT w R':=by
 rcases h with⟨h1,h2⟩ |⟨v,w',h1,h2⟩
 ·refine .inl ⟨h1,h2.mono λe w' he=>?_⟩;cases e<;>first |exact hr _ _ he |exact he
 exact .inr ⟨v,w',h1,hr _ _ h2⟩
def adG (Γ:Gl) (P:Program) (f:FuncId) (run:List Arg->(aa->Option aa)->Option aa):Prop:=∀ (args:List Arg) (kf:aa->Option aa) (ret:aa) (w:World) (σ:Nat->Option Nat) (bT:List Value) (H:Nat->Value) (B:Nat->Prop),run args kf=some ret->In Γ B H w σ args bT-> YP P f bT w λv w'=>∃ rt,kf rt=some ret/\Out B H w w' σ rt v
def Sound (Γ:Gl) (P:Program) (f:FuncId) (run:List Arg->(aa->Option aa)->Option aa):Prop:=adG Γ P f run/\∀ as,dk (run as)
def anU (Γ:Gl) (P:Program) (O:n9):Prop:=∀ f,Sound Γ P f (O.run f)
structure Dk (Γ:Gl) (P:Program) (O:n9) (w0:World) (W0:Nat->Prop):Prop where
 sd:anU Γ P O
 env:∀ g o,Γ g=some o->¬W0 g/\w0.heap[g]?=some o
theorem Dk.det {Γ:Gl} {P:Program} {O:n9} {w0:World} {W0:Nat->Prop} (h:Dk Γ P O w0 W0):C4 O:=λf=>(h.sd f).2
variable {Γ:Gl}
theorem ahd {l:List Entry} (h:∀ e∈l,Sound Γ P e.f e.run):anU Γ P (n9.of l):=by
 intro f;have key:∀ (l:List Entry) (e:Entry),entry l f=some e->e∈l/\e.f=f:=by
  intro l;induction l with
  |nil=>intro e h;cases h
  |cons e' r ih=>
  intro e h;simp only[entry] at h;cases hb:Nat.beq e'.f f with
  |true=>rw[hb] at h;injection h with h;subst h;exact⟨by simp,Nat.eq_of_beq_eq_true hb⟩
  |false=>rw[hb] at h;obtain⟨h1,h2⟩:=ih e h;exact⟨by simp[h1],h2⟩
 simp only[n9.of];split
 ·rename_i e he;obtain⟨h1,h2⟩:=key l e he;rw[←h2];exact h e h1
 exact⟨λargs kf ret w σ bT H B hr=>(by cases hr),λ_=>dk.none⟩
theorem RV:∀ (t:Ty) {x:t.I} {cs:List Value},nx t=true->K w A t x cs->K w' A' t x cs
 | .int _,_,_,_,h=>h
 | .bool,_,_,_,h=>h
 | .str,_,_,_,h=>h
 | .unit,_,_,_,h=>h
 | .pair a b,x,cs,hf,h=>by simp only[nx,Bool.and_eq_true] at hf;simp only[K] at h ⊢;obtain⟨c0,c1,rfl,h0,h1⟩:=h;exact⟨c0,c1,rfl,RV a hf.1 h0,RV b hf.2 h1⟩
 | .arr n t,x,cs,hf,h=>by simp only[nx] at hf;simp only[K] at h ⊢;obtain⟨l9,rfl,hl,hx,hj⟩:=h;exact⟨l9,rfl,hl,hx,λj h1 h2=>RV t hf (hj j h1 h2)⟩
 | .mp,_,_,hf,_=>by simp[nx] at hf
theorem tZ:∀ (t:Ty) {m:Md} {x:t.I} {cs:List Value} {ow:Nat->Prop},oa t m=true->M w A H t m x cs ow []->M w A' H t m x cs ow []
 | .sl t,.o T tag me,xs,cs,ow,hs,h=>by
  simp only[oa] at hs;simp only[M] at h ⊢;rcases h with⟨hn,_⟩ |⟨hk,_⟩ |⟨T,tag,me,X,c,e1,e2,hc,ht,h⟩
  ·simp at hn
  ·simp[Md.b5] at hk
  injection e1 with e1 L8 Di;subst e1 L8 Di;refine .inr (.inr ⟨_,_,_,X,c,rfl,e2,hc,ht,?_⟩);rcases h with h |⟨g,cur,τ,h1,h2,h3,h4,h5,h6⟩
  ·exact .inl h
  exact .inr ⟨g,cur,τ,h1,h2,h3,h4,h5,λj hj=>tZ t hs (h6 j hj)⟩
 | .ptr t,.o T tag me,x,cs,ow,hs,h=>by
  simp only[oa] at hs;simp only[M] at h ⊢;rcases h with⟨hn,_⟩ |⟨hk,_⟩ |⟨T,tag,me,g,cur,e1,e2,ht,hg,hw,h⟩
  ·simp at hn
  ·simp[Md.b5] at hk
  injection e1 with e1 L8 Di;subst e1 L8 Di;exact .inr (.inr ⟨_,_,_,g,cur,rfl,e2,ht,hg,hw,tZ t hs h⟩)
 | .pair a b,.p ma mb,x,cs,ow,hs,h=>by
  simp only[oa,Bool.and_eq_true] at hs;simp only[M] at h ⊢;rcases h with⟨hn,_⟩ |⟨hk,h⟩ |⟨ma,mb,c0,c1,s,e1,e2,h0,h1⟩
  ·simp at hn
  ·simp only[K] at h;simp only[Md.b5,Bool.and_eq_true] at hk;obtain⟨c0,c1,e2,h0,h1⟩:=h;refine .inr (.inr ⟨ma,mb,c0,c1,λ_=>True,rfl,e2,tZ a hs.1 (CG hk.1 h0),tZ b hs.2 (CG hk.2 h1)⟩)
  injection e1 with e1 L8;subst e1 L8;exact .inr (.inr ⟨_,_,c0,c1,s,rfl,e2,tZ a hs.1 h0,tZ b hs.2 h1⟩)
 | .sl t,.k,xs,cs,ow,hs,h=>by simp[oa,nx] at hs
 | .sl t,.p _ _,xs,cs,ow,hs,h=>by simp[oa,nx] at hs
 | .ptr t,.k,xs,cs,ow,hs,h=>by simp[oa,nx] at hs
 | .ptr t,.p _ _,xs,cs,ow,hs,h=>by simp[oa,nx] at hs
 | .pair a b,.k,xs,cs,ow,hs,h=>by simp only[oa,Bool.and_eq_true] at hs;exact CG hs.1 (RV _ hs.2 (nj _ hs.1 h))
 | .pair a b,.o ..,xs,cs,ow,hs,h=>by simp[oa,Md.b5] at hs
 | .int k,m,x,cs,ow,hs,h=>by simp only[M,K] at h ⊢;exact h
 | .bool,m,x,cs,ow,hs,h=>by simp only[M,K] at h ⊢;exact h
 | .str,m,x,cs,ow,hs,h=>by simp only[M,K] at h ⊢;exact h
 | .unit,m,x,cs,ow,hs,h=>by simp only[M,K] at h ⊢;exact h
 | .arr n t,m,x,cs,ow,hs,h=>by have hs:(m.b5&&nx (.arr n t))=true:=(by cases m<;>exact hs);simp only[Bool.and_eq_true] at hs;exact CG hs.1 (RV _ hs.2 (nj _ hs.1 h))
 | .mp,m,x,cs,ow,hs,h=>by have hs:(m.b5&&nx .mp)=true:=(by cases m<;>exact hs);simp[nx] at hs
def Pk (σ:Nat->Option Nat) (n:Nat) (g:Nat):Prop:=∃ i,n<=i/\σ g=some i
theorem akL {t:Ty} {m:Md} {x:t.I} {cs:List Value} {s n:Nat} {ow:Nat->Prop} (hs:s<n) (ho:∀ g,ow g->σ g=some s) (h:M w (Av σ Z) H t m x cs ow []):K w (Pk σ n) t x cs:=
 M_K (λg _ hg=>by obtain⟨i,_,hi⟩:=hg;exact .inl ⟨i,hi⟩) t rfl (λg hg hx=>by
  obtain⟨i,hi,yB⟩:=hx
  rw[ho g hg] at yB
  injection yB with yB
  omega) h
theorem ahe (h:a6 σ w0 W0 Z H S a w) {T:TypeId} {x:Operand} {av:AV} {b:TV} (ho:S.jT Θ T x=some av) (e:S.Ii av=some b): ∃ cs,ah b.t (a.eval x) cs/\K w (Pk σ S.length) b.t b.x cs:=by
 have hh:=bM h ho;cases av with
 |v a0 ex=>
  cases ex with
  |cons _ _=>simp[St.Ii] at e
  |nil=>
  simp only[St.Ii,Option.some.injEq] at e;subst e;obtain⟨cs,h1,h2⟩:=hh;cases x with
  |tmp i=>simp only[St.jT,Option.some.injEq] at ho;exact⟨cs,h1,akL (s:=i) (kT (by rw[ho];exact λe=>by cases e)) (λg hg=>by obtain⟨j,hj,hg⟩:=hg;injection hj with hj;subst hj;exact hg) h2⟩
  |const c=>exact⟨cs,h1,M_K (λg _ hg=>by obtain⟨i,_,hi⟩:=hg;exact .inl ⟨i,hi⟩) _ rfl (λg hg=>by obtain⟨j,hj,_⟩:=hg;cases hj) h2⟩
  |func f=>exact⟨cs,h1,M_K (λg _ hg=>by obtain⟨i,_,hi⟩:=hg;exact .inl ⟨i,hi⟩) _ rfl (λg hg=>by obtain⟨j,hj,_⟩:=hg;cases hj) h2⟩
  |global f=>exact⟨cs,h1,M_K (λg _ hg=>by obtain⟨i,_,hi⟩:=hg;exact .inl ⟨i,hi⟩) _ rfl (λg hg=>by obtain⟨j,hj,_⟩:=hg;cases hj) h2⟩
 |al t s p=>simp only[St.Ii] at e;obtain⟨r,dw,cs,hr,hc,hm⟩:=hh;obtain⟨rfl,fp,k2,k3⟩:=gy h hr hc e;obtain⟨ex0,hs0,_⟩:=hr.at_;exact⟨cs,hm,akL (s:=s) (kT (by rw[hs0];exact λe=>by cases e)) k2 k3⟩
 |cut t s p lo hi=>
  simp only[St.Ii] at e;obtain⟨r,dw,t',X,n,c,hr,rfl,hc,Yg,Rq,hv⟩:=hh;cases hp:S.place s p with
  |none=>rw[hp] at e;cases e
  |some b'=>obtain⟨ht,fp,k2,k3⟩:=gy h hr hc hp;obtain⟨bt,bm,bx⟩:=b';simp only at ht;subst ht;rw[hp] at e;simp only[Option.some.injEq] at e;subst e;obtain⟨ex0,hs0,_⟩:=hr.at_;have hK:=akL (s:=s) (n:=S.length) (kT (by rw[hs0];exact λe=>by cases e)) k2 k3;have hn:n=length bx:=(by simp only[K] at hK;obtain⟨_,_,e,_⟩:=hK;simp only[List.cons.injEq,Value.slice.injEq,and_true] at e;exact e.2.1);subst hn;rw[hv];exact⟨_,by simp[ah,isAgg],adu hK Yg Rq⟩
 |_=>simp[St.Ii] at e
theorem ahf {n:Nat}:aU w w (Av σ Z) (Pk σ n):=⟨λ_ _ _=>rfl,λg _ hg=>by obtain⟨i,_,hi⟩:=hg;exact .inl ⟨i,hi⟩⟩
theorem Hd (h:a6 σ w0 W0 Z H S a w):∀ {fc:List V6} {l:List TV} {vs:List Value},EJ S fc=some l->vs.length=fc.length->(∀ (j:Nat) (c:V6),fc[j]?=some c->∃ u,vs[j]?=some u/\Ap w (Av σ Z) (cn a) S c u)-> l.length=fc.length/\∀ (j:Nat) (c:TV),l[j]?=some c->∃ u,vs[j]?=some u/\K w (Pk σ S.length) c.t c.x [u]
 |[],l,vs,e,_,_=>by simp only[EJ,Option.some.injEq] at e;subst e;exact⟨rfl,λj c hj=>by simp at hj⟩
 |c::fc,l,vs,e,hl,hv=>by
  simp only[EJ] at e
  split at e
  case h_2=>cases e
  rename_i b l2 hb hl2
  simp only[Option.some.injEq] at e
  subst e
  match vs,hl with
  |u::vs,hl=>
   obtain⟨h1,h2⟩:=Hd h (vs:=vs) hl2 (by simpa using hl) (λj c hj=>by simpa using hv (j+1) c (by simpa using hj))
   refine⟨by simp[h1],λj c' hj=>?_⟩
   cases j with
   |succ j=>simpa using h2 j c' (by simpa using hj)
   |zero=>
    simp only[List.getElem?_cons_zero,Option.some.injEq] at hj
    subst hj
    obtain⟨u',hu,hc⟩:=hv 0 c rfl
    simp only[List.getElem?_cons_zero,Option.some.injEq] at hu
    subst hu
    refine⟨u,rfl,?_⟩
    cases c with
    |kv b'=>
     simp only[UM,Option.some.injEq] at hb
     subst hb
     exact cv ahf _ hc
    |pl t s p=>
     simp only[UM] at hb
     split at hb
     case h_2=>cases hb
     rename_i b' hp
     simp only[Option.some.injEq] at hb
     subst hb
     obtain⟨r,dw,cs,hr,rX,hm⟩:=hc
     obtain⟨LN,fp,k2,k3⟩:=gy h hr rX hp
     obtain⟨ex0,hs0,_⟩:=hr.at_
     have hK:=akL (s:=s) (n:=S.length) (kT (by rw[hs0];exact λe=>by cases e)) k2 k3
     have:cs=[u]:=by simpa[ah,isAgg] using hm
     rw[this] at hK
     exact hK
theorem Kw:∀ (xs:List Operand) (Ts:List TypeId) (ps:List Pass) (j:Nat) {S S1:St} {σ:Nat->Option Nat} {l:List (Option TV)},a6 σ w0 W0 Z H S a w->ph Θ S xs Ts ps=some (l,S1)-> ∃ (bU:Nat->Option Nat) (ow:Nat->Prop) (τ:Nat->Nat),a6 bU w0 W0 Z H S1 a w/\S1.length=S.length/\pO σ bU S.length ow/\l.length=xs.length/\(∀ g,ow g->j<=τ g/\τ g<j+l.length)/\ ((∀ p∈ps,p=.val)->∀ g,¬ow g)/\ ∀ (k:Nat) (b:TV),l[k]?=some (some b)->∃ x cs,xs[k]?=some x/\ah b.t (a.eval x) cs/\M w (Av σ Z) H b.t b.m b.x cs (λg=>ow g/\τ g=j+k) []
 |[],Ts,ps,j,S,S1,σ,l,h,e=>by simp only[ph,Option.some.injEq,Prod.mk.injEq] at e;obtain⟨rfl,rfl⟩:=e;exact⟨σ,λ_=>False,λ_=>j,h,rfl,pO.none _ _,rfl,λ_ h=>h.elim,λ_ _ h=>h,λk b hk=>by simp at hk⟩
 |x::xs,[],ps,j,S,S1,σ,l,h,e=>by simp[ph] at e
 |x::xs,T::Ts,[],j,S,S1,σ,l,h,e=>by simp[ph] at e
 |x::xs,T::Ts,p::ps,j,S,S1,σ,l,h,e=>by
  simp only[ph] at e
  split at e
  ·split at e
   case h_2=>cases e
   rename_i r hr
   simp only[Option.some.injEq,Prod.mk.injEq] at e
   obtain⟨rfl,rfl⟩:=e
   obtain⟨bU,ow,τ,k1,k2,k3,k4,k5,k6,k7⟩:=Kw xs Ts ps (j+1) h hr
   refine⟨bU,ow,τ,k1,k2,k3,by simp[k4],λg hg=>by have:=k5 g hg;simp only[List.length_cons];omega,λhp=>k6 (λp hp'=>hp p (by simp[hp'])),λk b hk=>?_⟩
   cases k with
   |zero=>simp at hk
   |succ k=>
    obtain⟨x',cs,q1,q2,q3⟩:=k7 k b (by simpa using hk)
    exact⟨x',cs,by simpa using q1,q2,by rw[show j+(k+1)=j+1+k from by omega];exact q3⟩
  rotate_left
  ·cases e
  ·unfold St.take at e
   split at e
   case h_2=>cases e
   rename_i b S2 hb
   split at hb
   case h_2=>cases hb
   rename_i av jU
   split at e
   case h_2=>cases e
   rename_i r hr
   simp only[Option.some.injEq,Prod.mk.injEq] at e
   obtain⟨rfl,rfl⟩:=e
   obtain⟨bU,cs,ow,h1,hm,hM,hk,hn⟩:=lV h jU hb
   obtain⟨iB,Dd,τ,k1,k2,k3,k4,k5,k6,k7⟩:=Kw xs Ts ps (j+1) h1 hr
   rw[hn] at k3
   have hap:∀ g,ow g->¬Dd g:=λg hg=>hk.apart k3 hg
   let τ':Nat->Nat:=λg=>open Classical in if ow g then j else τ g
   refine⟨iB,λg=>ow g∨Dd g,τ',k1,by omega,hk.trans k3,by simp[k4],λg hg=>?_,λhp=>(λhx:Pass.take=Pass.val=>nomatch hx) (hp .take (by simp)),λk b' mc=>?_⟩
   ·simp only[τ',List.length_cons]
    split
    ·omega
    ·rename_i hx
     have:=k5 g (hg.resolve_left hx)
     omega
   ·cases k with
    |zero=>
     simp only[List.getElem?_cons_zero,Option.some.injEq] at mc
     subst mc
     refine⟨x,cs,rfl,hm,aG (aU.refl _ _) _ (λ_ _ _=>rfl) (λg hg _=>⟨.inl hg,by simp only[τ',if_pos hg,Nat.add_zero]⟩) (λ_ h=>h) hM⟩
    |succ k=>
     obtain⟨x',fH,q1,q2,q3⟩:=k7 k b' (by simpa using mc)
     refine⟨x',fH,by simpa using q1,q2,aG ⟨λ_ _ _=>rfl,λg _ hg=>hk.Av.2 hg⟩ _ (λ_ _ _=>rfl) (λg hg _=>⟨.inr hg.1,?_⟩) (λ_ h=>h) q3⟩
     simp only[τ']
     rw[if_neg (λhx=>hap g hx hg.1),hg.2]
     omega
theorem w5 (h:a6 σ w0 W0 Z H S a w):∀ (xs:List Operand) (Ts:List TypeId) (l:List (Option TV)) {as:List Arg},l.length=xs.length->reads Θ S xs Ts l=some as-> as.length=xs.length/\∀ (k:Nat) (r:Arg),as[k]?=some r->(∃ b,l[k]?=some (some b)/\r=.tv b)∨∃ x,xs[k]?=some x/\∀ H,PQ w (Pk σ S.length) H r (a.eval x) (λ_=>False)
 |[],Ts,l,as,_,e=>by simp only[reads,Option.some.injEq] at e;subst e;exact⟨rfl,λk r hk=>by simp at hk⟩
 |x::xs,[],l,as,hl,e=>by simp[reads] at e
 |x::xs,T::Ts,[],as,hl,e=>by simp at hl
 |x::xs,T::Ts,p::ps,as,hl,e=>by
  have hl':ps.length=xs.length:=(by simpa using hl);simp only[reads] at e;split at e
  ·rename_i b;split at e;case h_2=>cases e
   rename_i r hr;simp only[Option.some.injEq] at e;subst e;obtain⟨h1,h2⟩:=w5 h xs Ts ps hl' hr;refine⟨by simp[h1],λk r' hk=>?_⟩;cases k with
   |zero=>simp only[List.getElem?_cons_zero,Option.some.injEq] at hk;exact .inl ⟨b,rfl,hk.symm⟩
   |succ k=>simpa using h2 k r' (by simpa using hk)
  split at e
  ·rename_i f fc jU;split at e;case h_2=>cases e
   rename_i cs r qk hr;simp only[Option.some.injEq] at e;subst e;obtain⟨h1,h2⟩:=w5 h xs Ts ps hl' hr;refine⟨by simp[h1],λk r' hk=>?_⟩;cases k with
   |zero=>simp only[List.getElem?_cons_zero,Option.some.injEq] at hk;subst hk;obtain⟨vs,v1,v2,v3⟩:=bM h jU;obtain⟨c1,c2⟩:=Hd h qk v2 v3;exact .inr ⟨x,rfl,λ_=>⟨vs,v1,by omega,c2⟩⟩
   |succ k=>simpa using h2 k r' (by simpa using hk)
  ·rename_i av _ jU;split at e;case h_2=>cases e
   rename_i b r hb hr;simp only[Option.some.injEq] at e;subst e;obtain⟨h1,h2⟩:=w5 h xs Ts ps hl' hr;refine⟨by simp[h1],λk r' hk=>?_⟩;cases k with
   |zero=>simp only[List.getElem?_cons_zero,Option.some.injEq] at hk;subst hk;obtain⟨cs,c1,c2⟩:=ahe h jU hb;exact .inr ⟨x,rfl,λ_=>⟨cs,c1,nu _ c2⟩⟩
   |succ k=>simpa using h2 k r' (by simpa using hk)
  cases e
theorem Ax (h:a6 σ w0 W0 Z H S a w):∀ (xs:List Operand) (Ts:List TypeId) (l:List (Option TV)) {as:List Arg},l.length=xs.length->reads Θ S xs Ts l=some as->rn S xs l as=true-> ∀ (k:Nat) (r:Arg),as[k]?=some r->(∃ b,l[k]?=some (some b)/\r=.tv b)∨∃ x,xs[k]?=some x/\∀ H,PQ w (Av σ Z) H r (a.eval x) (λ_=>False)
 |[],Ts,l,as,_,e,_=>by simp only[reads,Option.some.injEq] at e;subst e;exact λk r hk=>by simp at hk
 |x::xs,[],l,as,hl,e,_=>by simp[reads] at e
 |x::xs,T::Ts,[],as,hl,e,_=>by simp at hl
 |x::xs,T::Ts,p::ps,as,hl,e,hf=>by
  have hl':ps.length=xs.length:=(by simpa using hl);have lP:=(w5 h (x::xs) (T::Ts) (p::ps) hl e).2;simp only[reads] at e;split at e
  ·rename_i b;split at e;case h_2=>cases e
   rename_i r hr;simp only[Option.some.injEq] at e;subst e;simp only[rn,Bool.true_or,Bool.true_and] at hf;have h2:=Ax h xs Ts ps hl' hr hf;intro k r' hk;cases k with
   |zero=>simp only[List.getElem?_cons_zero,Option.some.injEq] at hk;exact .inl ⟨b,rfl,hk.symm⟩
   |succ k=>simpa using h2 k r' (by simpa using hk)
  split at e
  ·rename_i f fc jU;split at e;case h_2=>cases e
   rename_i cs r qk hr;simp only[Option.some.injEq] at e;subst e;simp only[rn,Bool.false_or,Bool.and_eq_true,List.isEmpty_iff] at hf;obtain⟨hf1,hf2⟩:=hf;have h2:=Ax h xs Ts ps hl' hr hf2;intro k r' hk;cases k with
   |succ k=>simpa using h2 k r' (by simpa using hk)
   |zero=>
   simp only[List.getElem?_cons_zero,Option.some.injEq] at hk;subst hk;rcases lP 0 _ rfl with⟨b',Up,_⟩ |⟨x',GM,tM⟩
   ·simp at Up
   simp only[List.getElem?_cons_zero,Option.some.injEq] at GM;subst GM;refine .inr ⟨x,rfl,λH'=>?_⟩;obtain⟨vs,v1,v2,v3⟩:=tM H';exact⟨vs,v1,v2,λj c hj=>by rw[hf1] at hj;simp at hj⟩
  ·rename_i av _ jU;split at e;case h_2=>cases e
   rename_i b r hb hr;simp only[Option.some.injEq] at e;subst e;simp only[rn,Bool.false_or,Bool.and_eq_true,Bool.or_eq_true] at hf;obtain⟨hf1,hf2⟩:=hf;have h2:=Ax h xs Ts ps hl' hr hf2;intro k r' hk;cases k with
   |succ k=>simpa using h2 k r' (by simpa using hk)
   |zero=>
   simp only[List.getElem?_cons_zero,Option.some.injEq] at hk;subst hk;rcases hf1 with hs |hs
   ·rcases lP 0 _ rfl with⟨b',Up,_⟩ |⟨x',GM,tM⟩
    ·simp at Up
    simp only[List.getElem?_cons_zero,Option.some.injEq] at GM;subst GM;refine .inr ⟨x,rfl,λH'=>?_⟩;obtain⟨cs,c1,c2⟩:=tM H';exact⟨cs,c1,tZ _ hs c2⟩
   refine .inr ⟨x,rfl,λH'=>?_⟩;have hh:=bM h jU;cases x with
   |func f=>simp[JD] at hs
   |global f=>simp[JD] at hs
   |tmp i=>
   simp only[St.jT,Option.some.injEq] at jU;subst jU;simp only[JD] at hs;split at hs
   ·rename_i b0 hb0;rw[hb0] at hh hb;simp only[St.Ii,Option.some.injEq] at hb;subst hb;obtain⟨cs,c1,c2⟩:=hh;exact⟨cs,c1,CG rfl (nj _ hs c2)⟩
   cases hs
   |const c=>
   have hk:∀ a0,av=.v a0 []->∀ H',PQ w (Av σ Z) H' (.tv (kTV b)) (a.eval (.const c)) λ_=>False:=λa0 e H'=>(by subst e;simp only[St.Ii,Option.some.injEq] at hb;subst hb;have hh:=bM h jU;obtain⟨cs,c1,c2⟩:=hh;exact⟨cs,c1,CG rfl (M_K (λg _ hg=>hg) _ rfl (λg hg=>by obtain⟨j,hj,_⟩:=hg;cases hj) c2)⟩);simp only[St.jT] at jU;cases hc:BC Θ T c with
   |none=>rw[hc] at jU;cases jU
   |some a0=>rw[hc] at jU;simp only[Option.map_some,Option.some.injEq] at jU;exact hk a0 jU.symm H'
  cases e
end Go.Pv
namespace Go.Pv
open List Int IntKind
variable {P:Program} {w w':World} {A A' B Wr:Nat->Prop} {H H':Nat->Value}
theorem yH:∀ (t:Ty) {m:Md} {x:t.I} {cs:List Value} {ow:Nat->Prop} {hs:List Path},BH m=true->M w A H t m x cs ow hs->M w A H' t m x cs ow hs
 | .int _,_,_,_,_,_,_,h=>by simp only[M] at h ⊢;exact h
 | .bool,_,_,_,_,_,_,h=>by simp only[M] at h ⊢;exact h
 | .str,_,_,_,_,_,_,h=>by simp only[M] at h ⊢;exact h
 | .unit,_,_,_,_,_,_,h=>by simp only[M] at h ⊢;exact h
 | .arr _ _,_,_,_,_,_,_,h=>by simp only[M] at h ⊢;exact h
 | .mp,m,x,cs,ow,hs,hb,h=>by
  simp only[M] at h ⊢;rcases h with h |h |⟨T,tag,g,es,n,rfl,e2,ht,hg,hw,h⟩
  ·exact .inl h
  ·exact .inr (.inl h)
  simp only[BH,Bool.and_eq_true] at hb;cases tag with
  |some _=>cases hb.1
  |none=>exact .inr (.inr ⟨T,none,g,es,n,rfl,e2,λh hh=>(by cases hh),hg,hw,h⟩)
 | .sl t,m,xs,cs,ow,hs,hb,h=>by
  simp only[M] at h ⊢;rcases h with h |h |⟨T,tag,me,X,c,rfl,e2,hc,ht,h⟩
  ·exact .inl h
  ·exact .inr (.inl h)
  simp only[BH,Bool.and_eq_true] at hb;obtain⟨hb1,hb2⟩:=hb;cases tag with
  |some _=>cases hb1
  |none=>
  refine .inr (.inr ⟨T,none,me,X,c,rfl,e2,hc,λh hh=>(by cases hh),?_⟩);rcases h with h |⟨g,cur,τ,h1,h2,h3,h4,h5,h6⟩
  ·exact .inl h
  exact .inr ⟨g,cur,τ,h1,h2,h3,h4,h5,λj hj=>yH t hb2 (h6 j hj)⟩
 | .ptr t,m,x,cs,ow,hs,hb,h=>by
  simp only[M] at h ⊢;rcases h with h |h |⟨T,tag,me,g,cur,rfl,e2,ht,hg,hw,h⟩
  ·exact .inl h
  ·exact .inr (.inl h)
  simp only[BH,Bool.and_eq_true] at hb;obtain⟨hb1,hb2⟩:=hb;cases tag with
  |some _=>cases hb1
  |none=>exact .inr (.inr ⟨T,none,me,g,cur,rfl,e2,λh hh=>(by cases hh),hg,hw,yH t hb2 h⟩)
 | .pair a b,m,x,cs,ow,hs,hb,h=>by
  simp only[M] at h ⊢;rcases h with h |h |⟨ma,mb,c0,c1,s,rfl,e2,h0,h1⟩
  ·exact .inl h
  ·exact .inr (.inl h)
  simp only[BH,Bool.and_eq_true] at hb;exact .inr (.inr ⟨ma,mb,c0,c1,s,rfl,e2,yH a hb.1 h0,yH b hb.2 h1⟩)
theorem Dl:∀ (t:Ty) {m:Md} {n:Nat},m.b5=true->(qY t m n).b5=true
 | .int _,m,n,h=>by simpa[qY] using h
 | .bool,m,n,h=>by simpa[qY] using h
 | .str,m,n,h=>by simpa[qY] using h
 | .unit,m,n,h=>by simpa[qY] using h
 | .arr _ _,m,n,h=>by simpa[qY] using h
 | .mp,m,n,h=>by cases m<;>simp_all [qY,Md.b5]
 | .sl t,m,n,h=>by cases m<;>simp_all [qY,Md.b5]
 | .ptr t,m,n,h=>by cases m<;>simp_all [qY,Md.b5]
 | .pair a b,m,n,h=>by
  cases m with
  |k=>simp[qY,Md.b5]
  |o=>simp[Md.b5] at h
  |p ma mb=>simp only[Md.b5,Bool.and_eq_true] at h;simp only[qY,Md.b5,Bool.and_eq_true];exact⟨Dl a h.1,Dl b h.2⟩
theorem w6:∀ (t:Ty) {m:Md} {x y:t.I},m.b5=true->lR t m x y=x
 | .int _,m,x,y,h=>rfl
 | .bool,m,x,y,h=>rfl
 | .str,m,x,y,h=>rfl
 | .unit,m,x,y,h=>rfl
 | .arr _ _,m,x,y,h=>rfl
 | .mp,m,x,y,h=>by cases m<;>simp_all [lR,Md.b5]
 | .sl t,m,x,y,h=>by cases m<;>simp_all [lR,Md.b5]
 | .ptr t,m,x,y,h=>by cases m<;>simp_all [lR,Md.b5]
 | .pair a b,m,x,y,h=>by
  cases m with
  |k=>simp[lR]
  |o=>simp[Md.b5] at h
  |p ma mb=>simp only[Md.b5,Bool.and_eq_true] at h;simp only[lR];rw[w6 a h.1,w6 b h.2]
theorem ahg:∀ (t:Ty) {m:Md} {x:t.I} {cs:List Value} {ow:Nat->Prop} {n:Nat},mH t m=true->M w A H t m x cs ow []->(∀ (j:Nat) (u:Value),cs[j]?=some u->H' (n+j)=u)->M w A H' t (qY t m n) x cs ow []
 | .int _,_,_,_,_,_,_,h,_=>by simp only[M,qY] at h ⊢;exact h
 | .bool,_,_,_,_,_,_,h,_=>by simp only[M,qY] at h ⊢;exact h
 | .str,_,_,_,_,_,_,h,_=>by simp only[M,qY] at h ⊢;exact h
 | .unit,_,_,_,_,_,_,h,_=>by simp only[M,qY] at h ⊢;exact h
 | .arr _ _,_,_,_,_,_,_,h,_=>by simp only[M,qY] at h ⊢;exact h
 | .mp,m,x,cs,ow,n,hl,h,hH=>by
  simp only[M] at h ⊢;rcases h with⟨h,_⟩ |⟨hk,h⟩ |⟨T,tag,g,es,k,rfl,rfl,ht,hg,hw,h⟩
  ·simp at h
  ·exact .inr (.inl ⟨Dl .mp hk,h⟩)
  refine .inr (.inr ⟨T,some n,g,es,k,rfl,rfl,λh hh=>?_,hg,hw,h⟩);injection hh with hh;subst hh;exact hH 0 _ rfl
 | .sl t,m,xs,cs,ow,n,hl,h,hH=>by
  simp only[M] at h ⊢;rcases h with⟨h,_⟩ |⟨hk,h⟩ |⟨T,tag,me,X,c,rfl,rfl,hc,ht,h⟩
  ·simp at h
  ·exact .inr (.inl ⟨Dl (.sl t) hk,h⟩)
  simp only[mH,Bool.and_eq_true] at hl;refine .inr (.inr ⟨T,some n,me,X,c,rfl,rfl,hc,λh hh=>?_,?_⟩)
  ·injection hh with hh;subst hh;exact hH 0 _ rfl
  rcases h with h |⟨g,cur,τ,h1,h2,h3,h4,h5,h6⟩
  ·exact .inl h
  exact .inr ⟨g,cur,τ,h1,h2,h3,h4,h5,λj hj=>yH t hl (h6 j hj)⟩
 | .ptr t,m,x,cs,ow,n,hl,h,hH=>by
  simp only[M] at h ⊢;rcases h with⟨h,_⟩ |⟨hk,h⟩ |⟨T,tag,me,g,cur,rfl,rfl,ht,hg,hw,h⟩
  ·simp at h
  ·exact .inr (.inl ⟨Dl (.ptr t) hk,h⟩)
  simp only[mH,Bool.and_eq_true] at hl;refine .inr (.inr ⟨T,some n,me,g,cur,rfl,rfl,λh hh=>?_,hg,hw,yH t hl h⟩);injection hh with hh;subst hh;exact hH 0 _ rfl
 | .pair a b,m,x,cs,ow,n,hl,h,hH=>by
  simp only[M] at h ⊢;rcases h with⟨h,_⟩ |⟨hk,h⟩ |⟨ma,mb,c0,c1,s,rfl,rfl,h0,h1⟩
  ·simp at h
  ·exact .inr (.inl ⟨Dl (.pair a b) hk,h⟩)
  simp only[mH,Bool.and_eq_true] at hl;have hl0:=(lQ a h0).1;refine .inr (.inr ⟨_,_,c0,c1,s,rfl,rfl,ahg a hl.1 h0 (λj u hj=>hH j u ?_),ahg b hl.2 h1 (λj u hj=>?_)⟩)
  ·rw[List.getElem?_append_left (List.getElem?_eq_some_iff.1 hj).1];exact hj
  rw[Nat.add_assoc];refine hH (a.size+j) u ?_;rw[List.getElem?_append_right (by omega),hl0,Nat.add_sub_cancel_left];exact hj
theorem Mj (cP:aU w w' A A'):∀ (t:Ty) {m:Md} {x y:t.I} {cs fH:List Value} {ow fp:Nat->Prop} {n:Nat},mH t m=true->(GW t m=true∨aU w' w' B A')->M w A H t m x cs ow []->(∀ (j:Nat) (u:Value),cs[j]?=some u->H' (n+j)=u)-> M w' B H' t (qY t m n) y fH fp []->M w' A' H t m (lR t m x y) cs fp []
 | .int _,_,_,_,_,_,_,_,_,_,_,h,_,_=>by simp only[M,lR] at h ⊢;exact⟨h.1,cv cP _ h.2⟩
 | .bool,_,_,_,_,_,_,_,_,_,_,h,_,_=>by simp only[M,lR] at h ⊢;exact⟨h.1,cv cP _ h.2⟩
 | .str,_,_,_,_,_,_,_,_,_,_,h,_,_=>by simp only[M,lR] at h ⊢;exact⟨h.1,cv cP _ h.2⟩
 | .unit,_,_,_,_,_,_,_,_,_,_,h,_,_=>by simp only[M,lR] at h ⊢;exact⟨h.1,cv cP _ h.2⟩
 | .arr _ _,_,_,_,_,_,_,_,_,_,_,h,_,_=>by simp only[M,lR] at h ⊢;exact⟨h.1,cv cP _ h.2⟩
 | .mp,m,x,y,cs,fH,ow,fp,n,hl,hB,h,hH,h'=>by
  simp only[M] at h;rcases h with⟨h,_⟩ |⟨hk,h⟩ |⟨T,tag,g,es,k,rfl,rfl,ht,hg,hw,h⟩
  ·simp at h
  ·rw[w6 _ hk];exact CG hk (cv cP _ h)
  simp only[qY,M] at h';rcases h' with⟨h',_⟩ |⟨hk,_⟩ |⟨T2,Yy,g2,es2,k2,e1,e2,ht2,EG,BF,h'⟩
  ·simp at h'
  ·simp[Md.b5] at hk
  injection e1 with e1 L8 Di;subst e1 L8;have q1:=ht2 n rfl;rw[show H' n=.map (some g) from hH 0 _ rfl] at q1;injection q1 with q1;injection q1 with q1;subst q1;simp only[M,lR];exact .inr (.inr ⟨T,tag,g,es2,k2,rfl,rfl,ht,EG,BF,h'⟩)
 | .sl t,m,xs,ys,cs,fH,ow,fp,n,hl,hB,h,hH,h'=>by
  simp only[M] at h;rcases h with⟨h,_⟩ |⟨hk,h⟩ |⟨T,tag,me,X,c,rfl,rfl,hc,ht,h⟩
  ·simp at h
  ·rw[w6 _ hk];exact CG hk (cv cP _ h)
  simp only[mH,Bool.and_eq_true] at hl;simp only[qY,M] at h';rcases h' with⟨h',_⟩ |⟨hk,_⟩ |⟨T2,Yy,me2,X2,c2,e1,e2,Gx,ht2,h'⟩
  ·simp at h'
  ·simp[Md.b5] at hk
  injection e1 with e1 L8 Di;subst e1 L8 Di;have q1:=ht2 n rfl;rw[show H' n=.slice X xs.length c from hH 0 _ rfl] at q1;injection q1 with q1 q2 q3;subst q1 q3;simp only[M,lR];refine .inr (.inr ⟨T,tag,me,X,c,rfl,by rw[q2],Gx,λh hh=>by rw[ht h hh,q2],?_⟩);rcases h' with h' |⟨g,cur,τ,k1,k2,k3,k4,k5,k6⟩
  ·exact .inl h'
  exact .inr ⟨g,cur,τ,k1,k2,k3,k4,k5,λj hj=>hB.elim (λhs=>tZ t hs (yH t hl (k6 j hj))) λcP=>aG cP t (λ_ _ _=>rfl) (λ_ h _=>h) (λ_ h=>h) (yH t hl (k6 j hj))⟩
 | .ptr t,m,x,y,cs,fH,ow,fp,n,hl,hB,h,hH,h'=>by
  simp only[M] at h;rcases h with⟨h,_⟩ |⟨hk,h⟩ |⟨T,tag,me,g,cur,rfl,rfl,ht,hg,hw,h⟩
  ·simp at h
  ·rw[w6 _ hk];exact CG hk (cv cP _ h)
  simp only[mH,Bool.and_eq_true] at hl;simp only[qY,M] at h';rcases h' with⟨h',_⟩ |⟨hk,_⟩ |⟨T2,Yy,me2,g2,pM,e1,e2,ht2,EG,BF,h'⟩
  ·simp at h'
  ·simp[Md.b5] at hk
  injection e1 with e1 L8 Di;subst e1 L8 Di;have q1:=ht2 n rfl;rw[show H' n=.pointer (some ⟨g,0,none⟩) from hH 0 _ rfl] at q1;injection q1 with q1;injection q1 with q1;injection q1 with q1;subst q1;simp only[M,lR];exact .inr (.inr ⟨T,tag,me,g,pM,rfl,rfl,ht,EG,BF,hB.elim (λhs=>tZ t hs (yH t hl h')) λcP=>aG cP t (λ_ _ _=>rfl) (λ_ h _=>h) (λ_ h=>h) (yH t hl h')⟩)
 | .pair a b,m,x,y,cs,fH,ow,fp,n,hl,hB,h,hH,h'=>by
  simp only[M] at h;rcases h with⟨h,_⟩ |⟨hk,h⟩ |⟨ma,mb,c0,c1,s,rfl,rfl,h0,h1⟩
  ·simp at h
  ·rw[w6 _ hk];exact CG hk (cv cP _ h)
  simp only[mH,Bool.and_eq_true] at hl;have hBa:GW a ma=true∨aU w' w' B A':=hB.imp (λh=>by simp only[GW,Bool.and_eq_true] at h;exact h.1) id;have hBb:GW b mb=true∨aU w' w' B A':=hB.imp (λh=>by simp only[GW,Bool.and_eq_true] at h;exact h.2) id;have hl0:=(lQ a h0).1;have hH0:∀ (j:Nat) (u:Value),c0[j]?=some u->H' (n+j)=u:=λj u hj=>hH j u (by rw[List.getElem?_append_left (List.getElem?_eq_some_iff.1 hj).1];exact hj);have hH1:∀ (j:Nat) (u:Value),c1[j]?=some u->H' (n+a.size+j)=u:=λj u hj=>by rw[Nat.add_assoc];refine hH (a.size+j) u ?_;rw[List.getElem?_append_right (by omega),hl0,Nat.add_sub_cancel_left];exact hj
  simp only[qY,M] at h';simp only[M,lR];rcases h' with⟨h',_⟩ |⟨hk,h'⟩ |⟨ma2,mb2,d0,d1,s2,e1,e2,k0,k1⟩
  ·simp at h'
  ·simp only[Md.b5,Bool.and_eq_true] at hk;simp only[K] at h';obtain⟨d0,d1,e2,k0,k1⟩:=h';exact .inr (.inr ⟨ma,mb,c0,c1,λ_=>True,rfl,rfl,Mj cP a hl.1 hBa h0 hH0 (CG hk.1 k0),Mj cP b hl.2 hBb h1 hH1 (CG hk.2 k1)⟩)
  injection e1 with e1 L8;subst e1 L8;exact .inr (.inr ⟨ma,mb,c0,c1,s2,rfl,rfl,Mj cP a hl.1 hBa h0 hH0 k0,Mj cP b hl.2 hBb h1 hH1 k1⟩)
end Go.Pv
namespace Go.Pv
open List Int IntKind
variable {P:Program} {w w':World} {A A' Wr:Nat->Prop} {H:Nat->Value} {tm FP:Nat->Value} {S S' S1:St} {σ bU iB:Nat->Option Nat} {w0:World} {W0 Z:Nat->Prop} {a:Act} {own:Nat->Prop} {v:Value} {Θ:fA} {dst:Option Nat} {O:n9} {hh:Hint} {Γ:Gl}
theorem Fr.trans {W1:Nat->Prop} (h:Fr w0 W0 w) (h1:Fr w W1 w') (hw:∀ g,W1 g->g<w0.heap.size->W0 g):Fr w0 W0 w':=by refine⟨h1.os.trans h.os,h1.tape.trans h.tape,h1.output.trans h.output,Nat.le_trans h.size h1.size,λg hg hn=>?_⟩;rw[h1.block g (by have:=h.size;omega) (λhx=>hn (hw g hx hg))];exact h.block g hg hn
theorem adH (hT:eA P hh.tab=true) (hO:Dk Γ P O w0 W0) (h:a6 σ w0 W0 Z H S a w) {o:Oper} {f:FuncId} {cal:Option Nat} {as:List Operand} {ts:List TypeId} {K:St->Option aa} {ret:aa} {Mk:List Value}
  (asZ:(cal=none/\Mk=[])∨∃ i,cal=some i/\cn a i=.func (.func f) #[] Mk.toArray) (e:qX hh O o f cal as ts S K=some ret):
  YP P f (as.map a.eval++Mk) w λv w'=>∃ S',K S'=some ret/\Rel w0 W0 Z H S' (a.put o.dst v) w'/\((∀ p∈O.sig f,p=.val)->Ext w w'):=by
 unfold qX at e
 split at e
 case h_2=>cases e
 rename_i l S1 hl
 split at e
 case h_2=>cases e
 rename_i args cs Vm qk
 obtain⟨bU,ow,τ,t1,t2,t3,t4,t5,t6,t7⟩:=Kw as ts (O.sig f) 0 h hl
 obtain⟨r1,r2⟩:=w5 t1 as ts l t4 Vm
 -- the captured values
 have afl:cs.length=Mk.length/\∀ (j:Nat) (c:TV),cs[j]?=some c->adk c=true/\∃ u,Mk[j]?=some u/\Go.Pv.K w (Pk bU S1.length) c.t c.x [u]:=by
  rcases asZ with⟨rfl,rfl⟩ |⟨i,rfl,hv⟩
  ·simp only[GV,Option.some.injEq] at qk
   subst qk
   exact⟨rfl,λj c hj=>by simp at hj⟩
  ·simp only[GV] at qk
   split at qk
   case h_2=>cases qk
   rename_i f' fc iT
   cases hb:Nat.beq f' f with
   |false=>rw[hb] at qk;cases qk
   |true=>
    rw[hb] at qk
    simp only[cond_true] at qk
    have hold:=t1.holds i
    rw[iT] at hold
    obtain⟨vs,v1,v2,v3⟩:=hold
    rw[hv] at v1
    injection v1 with _ _ v1
    have hvs:Mk=vs:=by
     have:=congrArg Array.toList v1
     simpa using this
    subst hvs
    split at qk
    case h_2=>cases qk
    rename_i l' hl'
    cases hp:l'.all adk with
    |false=>rw[hp] at qk;cases qk
    |true=>
     rw[hp] at qk
     simp only[cond_true,Option.some.injEq] at qk
     subst qk
     obtain⟨c1,c2⟩:=Hd t1 hl' v2 v3
     exact⟨by omega,λj c hj=>⟨List.all_eq_true.1 hp c (List.mem_of_getElem? hj),c2 j c hj⟩⟩
 -- the callee's arguments
 let Kx:Nat->Option Nat:=λg=>open Classical in if ow g then some (τ g) else none
 have Ky:∀ g i,Kx g=some i↔ow g/\τ g=i:=λg i=>by
  simp only[Kx]
  split
  ·rename_i hx;exact⟨λhg=>⟨hx,by injection hg⟩,λhg=>by rw[hg.2]⟩
  ·rename_i hx;exact⟨λhg=>(by cases hg),λhg=>absurd hg.1 hx⟩
 have I2:∀ g,Own Kx g↔ow g:=λg=>⟨λ⟨i,hi⟩=>((Ky g i).1 hi).1,λhg=>⟨τ g,(Ky g _).2 ⟨hg,rfl⟩⟩⟩
 have Vn:∀ g,ow g->Pk bU S1.length g:=λg hg=>by rw[t2];exact t3.now g hg
 obtain⟨Gz,Ml⟩:∃ Gz,Gz=(cs.isEmpty&&rn S1 as l args):=⟨_,rfl⟩
 let B:Nat->Prop:=λg=>Gz=true/\Av σ Z g/\ ¬ow g
 have abv:aU w w (Av σ Z) (Av Kx B):=⟨λ_ _ _=>rfl,λg _ hg=>by
  rcases hg with hg |hg
  ·obtain⟨i,_,hi⟩:=t3.YA g ((I2 g).1 hg)
   exact .inl ⟨i,hi⟩
  ·exact hg.2.1⟩
 have anV:aU w w (Av bU Z) (Av Kx B):=⟨λ_ _ _=>rfl,λg hl hg=>t3.Av.2 (abv.wr g hl hg)⟩
 have akM:Gz=false->aU w w (Pk bU S1.length) (Av Kx B):=λhn=>⟨λ_ _ _=>rfl,λg _ hg=>by
  rcases hg with hg |hg
  ·exact Vn g ((I2 g).1 hg)
  ·have h1:=hg.1;rw[hn] at h1;cases h1⟩
 have r3:=λhf:Gz=true=>Ax t1 as ts l t4 Vm (by rw[hf] at Ml;exact(Bool.and_eq_true _ _▸Ml.symm).2)
 have gl:In Γ B H w Kx (args++cs.map .tv) (as.map a.eval++Mk):=by
  refine⟨by simp[r1,afl.1],λg i hg=>?_,λg hg=>⟨?_,?_⟩,λg o hg=>⟨?_,?_⟩,λj r hj=>?_⟩
  ·obtain⟨q1,q2⟩:=(Ky g i).1 hg
   have:=(t5 g q1).2
   obtain⟨k,_,hk⟩:=t3.YA g q1
   exact⟨by simp only[List.length_append];omega,h.lt g k hk⟩
  ·cases hc:Kx g with
   |none=>rfl
   |some i=>exact absurd ((Ky g i).1 hc).1 hg.2.2
  ·rcases hg.2.1 with⟨i,hi⟩ |hz
   ·exact h.lt g i hi
   ·have:=(h.old g hz).2;have:=h.fr.size;omega
  ·cases hc:Kx g with
   |none=>rfl
   |some i=>
    obtain⟨k,_,hk⟩:=t3.YA g ((Ky g i).1 hc).1
    obtain⟨e1,e2⟩:=hO.env g o hg
    rcases h.new g k hk with hx |hx
    ·have:=bh e2;omega
    ·exact absurd hx e1
  ·obtain⟨e1,e2⟩:=hO.env g o hg
   rw[h.fr.block g (bh e2) e1,e2]
  ·rcases Nat.lt_or_ge j args.length with FU |FU
   ·rw[List.getElem?_append_left FU] at hj
    rw[List.getElem?_append_left (by simp only[List.length_map];omega),List.getElem?_map]
    rcases r2 j r hj with⟨b,hb,rfl⟩ |⟨x,hx,tM⟩
    ·obtain⟨x,c,q1,q2,q3⟩:=t7 j b hb
     rw[q1]
     exact⟨_,rfl,c,q2,aG abv _ (λ_ _ _=>rfl) (λg hg _=>(Ky g j).2 ⟨hg.1,by rw[hg.2];omega⟩) (λ_ h=>h) q3⟩
    ·have fin:∀ {A0:Nat->Prop},aU w w A0 (Av Kx B)->PQ w A0 H r (a.eval x) (λ_=>False)->PQ w (Av Kx B) H r (a.eval x) (λg=>Kx g=some j):=λcP tM=>by
      cases r with
      |tv b=>
       obtain⟨c,c1,c2⟩:=tM
       exact⟨c,c1,aG cP _ (λ_ _ _=>rfl) (λ_ hg _=>hg.elim) (λ_ h=>h) c2⟩
      |fn f' fc=>
       obtain⟨vs,c1,c2,c3⟩:=tM
       exact⟨vs,c1,c2,λk c hk=>by obtain⟨u,u1,u2⟩:=c3 k c hk;exact⟨u,u1,cv cP _ u2⟩⟩
     cases QQ:Gz with
     |false=>
      rw[hx]
      exact⟨_,rfl,fin (akM QQ) (tM H)⟩
     |true=>
      rcases r3 QQ j r hj with⟨b,hb,rfl⟩ |⟨x',GM,anW⟩
      ·obtain⟨x,c,q1,q2,q3⟩:=t7 j b hb
       rw[q1]
       exact⟨_,rfl,c,q2,aG abv _ (λ_ _ _=>rfl) (λg hg _=>(Ky g j).2 ⟨hg.1,by rw[hg.2];omega⟩) (λ_ h=>h) q3⟩
      ·rw[hx] at GM
       injection GM with GM
       subst GM
       rw[hx]
       exact⟨_,rfl,fin anV (anW H)⟩
   ·rw[List.getElem?_append_right FU,List.getElem?_map] at hj
    cases hc:cs[j - args.length]? with
    |none=>rw[hc] at hj;cases hj
    |some c=>
     rw[hc] at hj
     injection hj with hj
     subst hj
     obtain⟨u0,u,u1,u2⟩:=afl.2 _ c hc
     refine⟨u,?_,?_⟩
     ·rw[List.getElem?_append_right (by simp only[List.length_map];omega)]
      simpa[r1] using u1
     ·have QQ:Gz=false:=by
       cases hf:Gz with
       |false=>rfl
       |true=>
        rw[hf] at Ml
        cases cs with
        |nil=>simp at hc
        |cons _ _=>simp at Ml
      have hK:=cv (akM QQ) _ u2
      obtain⟨ct,cm,cx⟩:=c
      unfold adk at u0
      split at u0
      ·rename_i t ht
       simp only at ht u0 hK
       subst ht
       exact⟨[u],by simp[ah,isAgg],CG u0 hK⟩
      ·cases u0
 refine((hO.sd f).1 _ _ ret w Kx _ H B e gl).mono λv w' hv=>?_
 obtain⟨rt,LH,Uq⟩:=hv
 split at LH
 case h_2=>cases LH
 cases ahh:(rt.res.all (λd=>oa d.t d.m)||(cs.isEmpty&&rn S1 as l args)) with
 |false=>rw[ahh] at LH;cases LH
 |true=>
 rw[ahh] at LH
 simp only[cond_true] at LH
 rw[←Ml,Bool.or_eq_true] at ahh
 refine⟨_,LH,?_,λlP g hg=>Uq.fr.block g hg (λhx=>t6 lP g ((I2 g).1 hx))⟩
 -- behind the call
 obtain⟨ir,vs,q1,q2,q3,q4,_⟩:=Uq.res
 let n:=S1.length
 let GN:Nat->Option Nat:=λg=>match ir g with
  |some i=>some (S1.length+i)
  |none=>open Classical in if ow g then none else bU g
 have Ur:∀ g i,GN g=some i->(∃ k,ir g=some k/\i=S1.length+k)∨(ir g=none/\ ¬ow g/\bU g=some i):=λg i hg=>by
  simp only[GN] at hg
  split at hg
  ·rename_i k hk
   injection hg with hg
   exact .inl ⟨k,hk,hg.symm⟩
  ·rename_i hk
   split at hg
   ·cases hg
   ·exact .inr ⟨hk,by assumption,hg⟩
 have Vo:∀ g k,ir g=some k->GN g=some (S1.length+k):=λg k hk=>by simp only[GN,hk]
 have adI:∀ g i,ir g=none->¬ow g->bU g=some i->GN g=some i:=λg i h1 h2 h3=>by simp only[GN,h1,if_neg h2,h3]
 have JK:∀ g,g<w.heap.size->¬ow g->w'.heap[g]?=w.heap[g]?:=λg hg hn=>Uq.fr.block g hg (λhx=>hn ((I2 g).1 hx))
 have RW:∀ g,g<w.heap.size->∀ k,ir g=some k->ow g:=λg hg k hk=>by
  rcases(q3 g k hk).1 with hx |hx
  ·omega
  ·exact(I2 g).1 hx
 have cP:aU w w' (Av bU Z) (Av GN Z):=⟨λg hn hg=>JK g hg (λhx=>hn (by obtain⟨i,_,hi⟩:=Vn g hx;exact .inl ⟨i,hi⟩)),λg hg hx=>by
  rcases hx with⟨i,hx⟩ |hx
  ·rcases Ur g i hx with⟨k,hk,_⟩ |⟨_,_,hk⟩
   ·obtain⟨i,_,hi⟩:=Vn g (RW g hg k hk)
    exact .inl ⟨i,hi⟩
   ·exact .inl ⟨i,hk⟩
  ·exact .inr hx⟩
 have OI:∀ g,ow g->∀ i,bU g=some i->S1.length<=i:=λg hg i hi=>by
  obtain⟨j,hj,Ew⟩:=Vn g hg
  rw[hi] at Ew
  injection Ew with Ew
  omega
 have hR:a6 GN w0 W0 Z H S1 a w':=by
  refine⟨t1.len,t1.defers,t1.fr.trans Uq.fr (λg hg hl=>?_),λg i hg=>?_,λg i hg=>?_,λg hg=>⟨?_,(t1.old g hg).2⟩,λi=>?_⟩
  ·obtain⟨i,_,hi⟩:=Vn g ((I2 g).1 hg)
   rcases t1.new g i hi with hx |hx
   ·omega
   ·exact hx
  ·rcases Ur g i hg with⟨k,hk,_⟩ |⟨_,_,hk⟩
   ·rcases(q3 g k hk).1 with hx |hx
    ·have:=t1.fr.size;exact .inl (by omega)
    ·obtain⟨i,_,hi⟩:=Vn g ((I2 g).1 hx)
     exact t1.new g i hi
   ·exact t1.new g i hk
  ·rcases Ur g i hg with⟨k,hk,_⟩ |⟨_,_,hk⟩
   ·exact(q3 g k hk).2
   ·have:=t1.lt g i hk;have:=Uq.fr.size;omega
  ·obtain⟨z1,z2⟩:=t1.old g hg
   have Hc: ¬ow g:=λhx=>by obtain⟨i,_,hi⟩:=Vn g hx;rw[z1] at hi;cases hi
   have:ir g=none:=by
    cases hk:ir g with
    |none=>rfl
    |some k=>exact absurd (RW g (by have:=t1.fr.size;omega) k hk) Hc
   simp only[GN,this,if_neg Hc,z1]
  ·by_cases Uh:i<S1.length
   ·refine(t1.holds i).kept cP (λg hg hl=>?_) (λs hs=>?_)
    ·have Hc: ¬ow g:=λhx=>by have:=OI g hx i hg;omega
     refine⟨JK g hl Hc,adI g i ?_ Hc hg⟩
     cases hk:ir g with
     |none=>rfl
     |some k=>exact absurd (RW g hl k hk) Hc
    ·by_cases Qj:s<S1.length
     ·exact⟨λ_ _ h=>h,rfl,_,t1.holds s,λg hg hl=>JK g hl (λhx=>by have:=OI g hx s hg;omega)⟩
     ·have hd:S1.at s=.dead:=Classical.byContradiction λhx=>Qj (kT hx)
      exact⟨λ_ _ h=>h,rfl,λ_=>False,by rw[hd];trivial,λ_ h=>h.elim⟩
   ·have hd:S1.at i=.dead:=Classical.byContradiction λhx=>Uh (kT hx)
    rw[hd]
    trivial
 refine⟨_,hR.adz (ow:=λg=>∃ k,ir g=some k) (Nat.le_refl _) (λ_ _ _=>rfl) hR.fr (λg ⟨k,hk⟩=>⟨(q3 g k hk).2,.inl ⟨S1.length+k,by omega,Vo g k hk⟩⟩) λd _ g1 g2=>?_⟩
 -- the results
 have anX:Gz=true->aU w' w' (Av ir B) (Av (ob GN o.dst λg=>∃ k,ir g=some k) Z):=λQQ=>⟨λ_ _ _=>rfl,λg _ hg=>by
  rcases g2 g hg with (⟨i,hi⟩ |hz) |hx
  ·rcases Ur g i hi with⟨k,hk,_⟩ |⟨_,Hc,hk⟩
   ·exact .inl ⟨k,hk⟩
   ·exact .inr ⟨QQ,t3.Av.1 (.inl ⟨i,hk⟩),Hc⟩
  ·refine .inr ⟨QQ,.inr hz,λhx=>?_⟩
   obtain⟨i,_,hi⟩:=Vn g hx
   rw[(t1.old g hz).1] at hi
   cases hi
  ·exact .inl hx⟩
 have Mf:∀ (i:Nat) (b:TV),rt.res[i]?=some b->∃ u cs,vs[i]?=some u/\ah b.t u cs/\M w' (Av (ob GN o.dst λg=>∃ k,ir g=some k) Z) H b.t b.m b.x cs (λg=>ir g=some i) []:=λi b hb=>by
  obtain⟨u,c,u1,u2,u3⟩:=q4 i b hb
  refine⟨u,c,u1,u2,?_⟩
  rcases ahh with hs |QQ
  ·exact tZ _ (List.all_eq_true.1 hs b (List.mem_of_getElem? hb)) u3
  ·exact aG (anX QQ) _ (λ_ _ _=>rfl) (λ_ h _=>h) (λ_ h=>h) u3
 have ahi:∀ l:List TV,l=rt.res->Holds w' (Av (ob GN o.dst λg=>∃ k,ir g=some k) Z) H (cn (a.put o.dst v)) (S1.put o.dst (.Ih (l.map some))) (λg=>ob GN o.dst (λg=>∃ k,ir g=some k) g=some d) (.Ih (l.map some)) (.tuple vs.toArray):=λl hl=>by
  subst hl
  refine⟨vs,λg=>(ir g).getD 0,rfl,by simp[q2],λj b hj=>?_⟩
  rw[List.getElem?_map] at hj
  cases hb:rt.res[j]? with
  |none=>rw[hb] at hj;cases hj
  |some b'=>
   rw[hb] at hj
   simp only[Option.map_some,Option.some.injEq] at hj
   subst hj
   obtain⟨u,c,u1,u2,u3⟩:=Mf j b' hb
   exact⟨u,c,u1,u2,aG (aU.refl _ _) _ (λ_ _ _=>rfl) (λg hg _=>⟨g1 g ⟨j,hg⟩,by show(ir g).getD 0=j;rw[hg];rfl⟩) (λ_ h=>h) u3⟩
 subst q1
 match RX:rt.res,q2 with
 |[b],q2=>
  match vs,q2 with
  |[u],_=>
   obtain⟨u',c,u1,u2,u3⟩:=Mf 0 b (by rw[RX];rfl)
   simp only[List.getElem?_cons_zero,Option.some.injEq] at u1
   subst u1
   exact⟨c,u2,aG (aU.refl _ _) _ (λ_ _ _=>rfl) (λg hg _=>g1 g ⟨0,hg⟩) (λ_ h=>h) u3⟩
 |[],q2=>
  match vs,q2 with
  |[],_=>exact ahi [] RX.symm
 |b::b'::r,q2=>
  match vs,q2 with
  |u::u'::vr,_=>exact ahi (b::b'::r) RX.symm
end Go.Pv
namespace Go.Pv
open List Int IntKind
variable {P:Program} {w w':World} {A A' Wr:Nat->Prop} {H H':Nat->Value} {tm FP:Nat->Value} {S S' S1:St} {σ bU iB:Nat->Option Nat} {w0:World} {W0 Z:Nat->Prop} {a:Act} {own:Nat->Prop} {v:Value} {Θ:fA} {dst:Option Nat} {O:n9} {hh:Hint} {Γ:Gl}
theorem JL (cur:List Value) (off n:Nat) (h:off+n<=cur.length):putCells cur off ((cur.drop off).take n)=cur:=by
 have hl:((cur.drop off).take n).length=n:=by rw[List.length_take,List.length_drop];omega
 apply List.ext_getElem?;intro k;rw[qn _ _ _ _ (by omega),hl];by_cases h1:k<off
 ·rw[if_pos h1]
 rw[if_neg h1];by_cases h2:k<off+n
 ·rw[if_pos h2,List.getElem?_take,if_pos (by omega),List.getElem?_drop];congr 1;omega
 rw[if_neg h2]
theorem abw {ow:Nat->Prop} {Kx ir:Nat->Option Nat} (t1:a6 bU w0 W0 Z H S1 a w) (Vn:∀ g,ow g->Pk bU S1.length g) (I2:∀ g,Own Kx g↔ow g) (Eu:Fr w (Own Kx) w')
  (q3:∀ g i,ir g=some i->(w.heap.size<=g∨Own Kx g)/\g<w'.heap.size):
  ∃ GN,a6 GN w0 W0 Z H S1 a w'/\(∀ g k,ir g=some k->GN g=some (S1.length+k))/\aU w w' (Av bU Z) (Av GN Z)/\
   (∀ g i,i<S1.length->GN g=some i->bU g=some i)/\(∀ g i,i<S1.length->bU g=some i->w'.heap[g]?=w.heap[g]?)/\(∀ g i,GN g=some i->(∃ k,ir g=some k)∨(¬ow g/\bU g=some i)):=by
 let GN:Nat->Option Nat:=λg=>match ir g with
  |some i=>some (S1.length+i)
  |none=>open Classical in if ow g then none else bU g
 have Ur:∀ g i,GN g=some i->(∃ k,ir g=some k/\i=S1.length+k)∨(ir g=none/\ ¬ow g/\bU g=some i):=λg i hg=>by
  simp only[GN] at hg
  split at hg
  ·rename_i k hk
   injection hg with hg
   exact .inl ⟨k,hk,hg.symm⟩
  ·rename_i hk
   split at hg
   ·cases hg
   ·exact .inr ⟨hk,by assumption,hg⟩
 have Vo:∀ g k,ir g=some k->GN g=some (S1.length+k):=λg k hk=>by simp only[GN,hk]
 have adI:∀ g i,ir g=none->¬ow g->bU g=some i->GN g=some i:=λg i h1 h2 h3=>by simp only[GN,h1,if_neg h2,h3]
 have JK:∀ g,g<w.heap.size->¬ow g->w'.heap[g]?=w.heap[g]?:=λg hg hn=>Eu.block g hg (λhx=>hn ((I2 g).1 hx))
 have RW:∀ g,g<w.heap.size->∀ k,ir g=some k->ow g:=λg hg k hk=>by
  rcases(q3 g k hk).1 with hx |hx
  ·omega
  ·exact(I2 g).1 hx
 have cP:aU w w' (Av bU Z) (Av GN Z):=⟨λg hn hg=>JK g hg (λhx=>hn (by obtain⟨i,_,hi⟩:=Vn g hx;exact .inl ⟨i,hi⟩)),λg hg hx=>by
  rcases hx with⟨i,hx⟩ |hx
  ·rcases Ur g i hx with⟨k,hk,_⟩ |⟨_,_,hk⟩
   ·obtain⟨i,_,hi⟩:=Vn g (RW g hg k hk)
    exact .inl ⟨i,hi⟩
   ·exact .inl ⟨i,hk⟩
  ·exact .inr hx⟩
 have OI:∀ g,ow g->∀ i,bU g=some i->S1.length<=i:=λg hg i hi=>by
  obtain⟨j,hj,Ew⟩:=Vn g hg
  rw[hi] at Ew
  injection Ew with Ew
  omega
 refine⟨GN,?_,Vo,cP,λg i hi hg=>?_,λg i hi hg=>JK g (t1.lt g i hg) (λhx=>by have:=OI g hx i hg;omega),λg i hg=>by
  rcases Ur g i hg with⟨k,hk,_⟩ |⟨_,h1,h2⟩
  ·exact .inl ⟨k,hk⟩
  ·exact .inr ⟨h1,h2⟩⟩
 rotate_left
 ·rcases Ur g i hg with⟨k,_,hk⟩ |⟨_,_,hk⟩
  ·omega
  ·exact hk
 refine⟨t1.len,t1.defers,t1.fr.trans Eu (λg hg hl=>?_),λg i hg=>?_,λg i hg=>?_,λg hg=>⟨?_,(t1.old g hg).2⟩,λi=>?_⟩
 ·obtain⟨i,_,hi⟩:=Vn g ((I2 g).1 hg)
  rcases t1.new g i hi with hx |hx
  ·omega
  ·exact hx
 ·rcases Ur g i hg with⟨k,hk,_⟩ |⟨_,_,hk⟩
  ·rcases(q3 g k hk).1 with hx |hx
   ·have:=t1.fr.size;exact .inl (by omega)
   ·obtain⟨i,_,hi⟩:=Vn g ((I2 g).1 hx)
    exact t1.new g i hi
  ·exact t1.new g i hk
 ·rcases Ur g i hg with⟨k,hk,_⟩ |⟨_,_,hk⟩
  ·exact(q3 g k hk).2
  ·have:=t1.lt g i hk;have:=Eu.size;omega
 ·obtain⟨z1,z2⟩:=t1.old g hg
  have Hc: ¬ow g:=λhx=>by obtain⟨i,_,hi⟩:=Vn g hx;rw[z1] at hi;cases hi
  have:ir g=none:=by
   cases hk:ir g with
   |none=>rfl
   |some k=>exact absurd (RW g (by have:=t1.fr.size;omega) k hk) Hc
  simp only[GN,this,if_neg Hc,z1]
 ·by_cases Uh:i<S1.length
  ·refine(t1.holds i).kept cP (λg hg hl=>?_) (λs hs=>?_)
   ·have Hc: ¬ow g:=λhx=>by have:=OI g hx i hg;omega
    refine⟨JK g hl Hc,adI g i ?_ Hc hg⟩
    cases hk:ir g with
    |none=>rfl
    |some k=>exact absurd (RW g hl k hk) Hc
   ·by_cases Qj:s<S1.length
    ·exact⟨λ_ _ h=>h,rfl,_,t1.holds s,λg hg hl=>JK g hl (λhx=>by have:=OI g hx s hg;omega)⟩
    ·have hd:S1.at s=.dead:=Classical.byContradiction λhx=>Qj (kT hx)
     exact⟨λ_ _ h=>h,rfl,λ_=>False,by rw[hd];trivial,λ_ h=>h.elim⟩
  ·have hd:S1.at i=.dead:=Classical.byContradiction λhx=>Uh (kT hx)
   rw[hd]
   trivial
theorem abx (h:a6 σ w0 W0 Z H S a w) {T:TypeId} {x:Operand} {av:AV} {b:TV} {s:Nat} {p:Path} {cs:List Value} (ho:S.jT Θ T x=some av) (hl:wW x av=some (s,p)) (e:S.jL x av=some (b,S1)) (hk:b.m.b5=false) (hm:ah b.t (a.eval x) cs): (p=[]/\s<S.length/\ah b.t (cn a s) cs)∨∃ r ex dw,p≠[]/\S1.at s=.v r (ex++[p])/\ah r.t (cn a s) dw/\aH w p r.t dw=some cs/\valid p r.t r.x/\a7 p r.t r.m r.x=some b/\∀ q∈ex,jk q p=false:=by
 have hh:=bM h ho;cases av with
 |v a0 ex=>
  cases x with
  |tmp i=>simp only[wW,Option.some.injEq,Prod.mk.injEq] at hl;obtain⟨rfl,rfl⟩:=hl;exact .inl ⟨rfl,kT (by simp only[St.jT,Option.some.injEq] at ho;rw[ho];exact λe=>by cases e),hm⟩
  |const c=>simp[wW] at hl
  |func f=>simp[wW] at hl
  |global g=>simp[wW] at hl
 |al t s' p'=>
  simp only[wW,Option.some.injEq,Prod.mk.injEq] at hl;obtain⟨rfl,rfl⟩:=hl;obtain⟨r,dw,cs1,hr,hc,hm1⟩:=hh;simp only[St.jL] at e;split at e;case h_2=>cases e
  rename_i b' hb;cases mc:b'.m.b5 with
  |true=>rw[mc] at e;simp only[cond_true,Option.some.injEq,Prod.mk.injEq] at e;obtain⟨rfl,rfl⟩:=e;rw[hk] at mc;cases mc
  |false=>
  rw[mc] at e;simp only[cond_false] at e;have hpr:=gy h hr hc hb;obtain⟨LN,_⟩:=hpr;cases hp:p' with
  |nil=>
  subst hp;simp only[Option.some.injEq,Prod.mk.injEq] at e;obtain⟨rfl,rfl⟩:=e;simp only[aH,Option.some.injEq] at hc;subst hc;obtain⟨b2,g1,g2⟩:=hr.get;simp only[a7,Option.some.injEq] at g1;subst g1;have LH:r.t=b'.t:=by rw[LN];exact g2
  refine .inl ⟨rfl,kT (by obtain⟨ex0,hs0,_⟩:=hr.at_;rw[hs0];exact λe=>by cases e),?_⟩;rw[LN] at hm ⊢;obtain rfl:=eG hm hm1;have:=hr.mat;rw[LH,LN] at this;exact this
  |cons Wj pp=>rw[hp] at e;obtain⟨ex,b2,fH,ow0,j1,j2,j3,j4,hM,j5,j6,j7⟩:=oM h hr;rw[j1] at e;simp only[Option.some.injEq,Prod.mk.injEq] at e;rw[←hp] at e;obtain⟨rfl,rfl⟩:=e;obtain⟨r3,ex3,q1,q2,q3⟩:=ES hb;rw[j1] at q1;injection q1 with q1 RF;subst q1 RF;rw[j3] at q3;injection q3 with q3;subst q3;rw[LN] at hm;obtain rfl:=eG hm hm1;have hlen:((S.weaken s').cover s' p').length=S.length:=(by simp[St.weaken,St.cover]);have Qj:s'<S.length:=kT (by rw[j1];exact λe=>by cases e);have OG:St.at (((S.weaken s').cover s' p').set s' (.v r (ex++[p']))) s'=.v r (ex++[p']):=(by rw[eH,if_pos ⟨rfl,by rw[hlen];exact Qj⟩]);exact .inr ⟨r,ex,dw,by simp,by rw[←hp];exact OG,hr.mat,by rw[←hp];exact hc,by rw[←hp];exact hr.val,by rw[←hp];exact j3,by rw[←hp];exact q2⟩
 |_=>simp[wW] at hl
theorem PR {b:TV} {s:Nat} {p:Path} {r:TV} {ex:List Path} {dw cs:List Value} {Dd:Nat->Prop} {b0:TV} {m:Md} {z:r.t.I} (h:a6 σ w0 W0 Z H S a w) (Dc:∀ g,Dd g->∃ i,S.length<=i/\σ g=some i) (iT:S.at s=.v r (ex++[p])) (Mi:ah r.t (cn a s) dw) (hc:aH w p r.t dw=some cs) (tS:valid p r.t r.x) (mm:a7 p r.t r.m r.x=some b0) (rX:∀ q∈ex,jk q p=false) (CL:pR b p r.t r.m r.x=some (m,z)) (hM:M w (Av σ Z) H b.t b.m b.x cs Dd []):∃ iB,a6 iB w0 W0 Z H (S.put (some s) (.v ⟨r.t,m,z⟩ ex)) a w/\(∀ g i,S.length<=i->¬Dd g->σ g=some i->iB g=some i)/\∀ g i,iB g=some i->Dd g∨σ g=some i:=by
 have hh:=h.holds s;rw[iT] at hh;obtain⟨aqa,YC,Yb⟩:=hh;obtain rfl:=eG Mi YC;have Mc:open_ p (ex++[p]):=by
  intro q hq s' r' e;rcases List.mem_append.1 hq with hq |hq
  ·exact JE rX q hq s' r' e
  rw[List.mem_singleton.1 hq] at e;have:=congrArg length e;simp at this
 obtain⟨fH,fp,c1,c2,c3,xX⟩:=Oi p Yb Mc tS mm;rw[hc] at c1;injection c1 with c1;subst c1;have lU:b.t=b0.t:=Ip p CL mm;obtain⟨EH,xX⟩:=xX b (m,z) lU CL;have hlen:cs.length=b.t.size:=(lQ _ hM).1;let iB:Nat->Option Nat:=λg'=>open Classical in if Dd g' then some s else σ g'
 have Wq:∀ g' i,iB g'=some i->(Dd g'/\i=s)∨(¬Dd g'/\σ g'=some i):=λg' i bq=>by
  simp only[iB] at bq;split at bq
  ·injection bq with bq;exact .inl ⟨by assumption,bq.symm⟩
  exact .inr ⟨by assumption,bq⟩
 have Ve:∀ g' i,¬Dd g'->σ g'=some i->iB g'=some i:=λg' i hn bq=>by simp only[iB,if_neg hn,bq]
 have Qj:s<S.length:=kT (by rw[iT];exact λe=>by cases e);have akH:∀ g',Av iB Z g'->Av σ Z g':=λg' bq=>by
  rcases bq with⟨i,bq⟩ |bq
  ·rcases Wq g' i bq with⟨hx,_⟩ |⟨_,hx⟩
   ·obtain⟨j,_,hj⟩:=Dc g' hx;exact .inl ⟨j,hj⟩
   exact .inl ⟨i,hx⟩
  exact .inr bq
 have Hc:∀ g i,i<S.length->σ g=some i->¬Dd g:=λg i hi hg hx=>by obtain⟨j,hj,Ew⟩:=Dc g hx;rw[hg] at Ew;injection Ew with Ew;omega
 have cP:aU w w (Av σ Z) (Av iB Z):=⟨λ_ _ _=>rfl,λg _ hg=>akH g hg⟩;have hl0:dw.length=r.t.size:=(lQ _ Yb).1;have Mf:=xX w (Av iB Z) cs Dd ex cP (by rw[hlen,lU]) (λg lO EG _=>by
  unfold yD
  split
  ·rename_i q hq
   split
   ·rename_i hgq
    obtain⟨_,_,cur,T,hw,hb,qk⟩:=EH q.1 q.2 hq
    subst hgq
    refine⟨cur,T,hw,?_⟩
    rw[qk,JL _ _ _ (by simpa using hb)]
    simpa using hw
   ·rfl
  ·rfl) (aG cP _ (λ_ _ _=>rfl) (λg hg _=>hg) (λ_ hx=>by cases hx) hM) (λg lO _ EG=>absurd lO (Hc g s Qj EG)) (λq hq1 UX=>by
  rcases List.mem_append.1 UX with UX |UX
  ·exact UX
  ·exact absurd (by rw[List.mem_singleton.1 UX];simp) (hq1 []))
 have as0:EF p r.t dw cs=dw:=by
  cases hp:aI p with
  |false=>exact wS p hp
  |true=>have h1:=kh (w:=w) p hp mm hl0;rw[hc] at h1;injection h1 with h1;rw[xW p hp mm hl0 (by rw[hlen,lU]),h1];exact JL _ _ _ (by rw[hl0];exact hY p hp mm)
 rw[as0] at Mf;refine⟨iB,?_,λg i _ hn hg=>Ve g i hn hg,λg i hg=>(Wq g i hg).imp (·.1) (·.2)⟩;have:=h.put (dst:=some s) (av:=.v ⟨r.t,m,z⟩ ex) (v:=cn a s) cP h.fr (λg i hg=>?_) (λg hg=>?_) (λi g hi hd hg=>⟨rfl,Ve g i (Hc g i hi hg) hg⟩) (λd hd Uo _=>?_)
 ·rw[x6] at this;exact this
 ·rcases Wq g i hg with⟨hx,_⟩ |⟨_,hx⟩
  ·obtain⟨j,_,hj⟩:=Dc g hx;exact⟨h.new g j hj,h.lt g j hj⟩
  exact⟨h.new g i hx,h.lt g i hx⟩
 ·have h0:=(h.old g hg).1;simp only[iB];split
  ·rename_i hx;obtain⟨j,_,hj⟩:=Dc g hx;rw[h0] at hj;cases hj
  exact h0
 injection hd with hd;subst hd;refine⟨dw,Mi,aG (aU.refl _ _) _ (λ_ _ _=>rfl) (λg hg _=>?_) (λ_ h=>h) Mf⟩;rcases hg with⟨k1,_⟩ |k1
 ·exact Ve g s (Hc g s Qj k1) k1
 simp only[iB,if_pos k1]
theorem YQ {b:TV} {s:Nat} {cs:List Value} {Dd:Nat->Prop} (h:a6 σ w0 W0 Z H S a w) (Dc:∀ g,Dd g->∃ i,S.length<=i/\σ g=some i) (hs:s<S.length) (Mi:ah b.t (cn a s) cs) (hM:M w (Av σ Z) H b.t b.m b.x cs Dd []):∃ iB,a6 iB w0 W0 Z H (S.put (some s) (.v b [])) a w/\(∀ g i,S.length<=i->¬Dd g->σ g=some i->iB g=some i)/\∀ g i,iB g=some i->Dd g∨σ g=some i:=by
 refine⟨ob σ (some s) Dd,?_,λg i hi hn hg=>by
  unfold ob
  rw[if_neg hn]
  exact zP (λe=>by injection e with e;omega) hg,λg i hg=>by
  unfold ob at hg
  split at hg
  ·rename_i hx;exact .inl hx
  ·exact .inr (lv hg).1⟩
 have:=h.Wn (dst:=some s) (v:=cn a s) (ow:=Dd) (A':=Av σ Z) (λ_ _=>rfl) h.fr (λg hg=>by
  obtain⟨i,hi,yB⟩:=Dc g hg
  exact⟨h.lt g i yB,.inl ⟨i,hi,yB⟩⟩) (λg _ hg=>by
  rcases hg with hg |hg
  ·exact hg
  ·obtain⟨i,hi,yB⟩:=Dc g hg
   exact .inl ⟨i,yB⟩) Mi hM
 rw[x6] at this;exact this
theorem ahj {S S2:St} {s:Nat} (h0:a6 σ w0 W0 Z H S a w) (h:a6 bU w0 W0 Z H S2 a w'):a6 bU w0 W0 Z H (S.again S2 s) a w':=by
 have hl:S2.length=S.length:=by have:=h0.len;have:=h.len;omega
 have hlen:(S.again S2 s).length=S2.length:=by
  unfold St.again;split
  ·rw[List.length_zipWith];omega
  rfl
 have hv:∀ k r ex,S2.at k=.v r ex->(S.again S2 s).at k=.v r ex:=λk r ex he=>by
  rcases again_at (s:=s) hl k with hx |⟨_,_,_,_,_,_,hx,_⟩
  ·rw[hx,he]
  rw[he] at hx;cases hx
 refine⟨by rw[hlen];exact h.len,h.defers,h.fr,h.new,h.lt,h.old,λi=>?_⟩;rcases again_at (s:=s) hl i with hx |⟨t,r,ex,ha,hs,ht,hb,hx⟩
 ·rw[hx];exact(h.holds i).kept (aU.refl _ _) (λg hg _=>⟨rfl,hg⟩) (λk _=>⟨λr ex he=>hv k r ex he,rfl,_,h.holds k,λ_ _ _=>rfl⟩)
 rw[hx];have h1:=h0.holds i;rw[ha] at h1;obtain⟨r0,dw,cs,hr,hc,hm⟩:=h1;have h2:=h.holds s;rw[hs] at h2;obtain⟨cs2,hm2,hM2⟩:=h2;obtain⟨ex0,g1,g2⟩:=hr.at_;obtain⟨c,c1,c2⟩:=hr.get;have e0:r0.t=t:=by simp only[a7,Option.some.injEq] at c1;rw[←c1] at c2;exact c2
 have e1:dw=cs:=by simpa only[aH,Option.some.injEq] using hc
 have Mi:=hr.mat;rw[e0,ht] at Mi;have e2:=eG hm2 Mi;refine⟨r,cs2,cs2,⟨⟨ex,hv s r ex hs,λq _ s r e=>by cases q<;>simp at e⟩,trivial,⟨_,rfl,ht.symm⟩,hm2⟩,rfl,?_⟩;rw[e2,e1];exact hm
theorem akN (hT:eA P hh.tab=true) (hO:Dk Γ P O w0 W0) (h:a6 σ w0 W0 Z H S a w) {o:Oper} {f:FuncId} {j:Nat} {as:List Operand} {ts:List TypeId} {K:St->Option aa} {ret:aa} (e:GX hh O o f j as ts S K=some ret):YP P f (as.map a.eval) w λv w'=>∃ S',K S'=some ret/\Rel w0 W0 Z H S' (a.put o.dst v) w':=by
 unfold GX at e;split at e;case h_2=>cases e
 rename_i x T hx hT';split at e;case h_2=>cases e
 rename_i av jU;split at e;case h_2=>cases e
 rename_i s p b S1 hlp Wc;cases adJ:(!b.m.b5&&mH b.t b.m) with
 |false=>rw[adJ] at e;cases e
 |true=>
  rw[adJ] at e;simp only[cond_true] at e;simp only[Bool.and_eq_true,Bool.not_eq_true'] at adJ;obtain⟨hk,hlb⟩:=adJ;split at e;case h_2=>cases e
  rename_i args Vm;obtain⟨Gz,Ml⟩:∃ Gz,Gz=rn S1 as ((List.replicate as.length none).set j (some ⟨b.t,qY b.t b.m 0,b.x⟩)) args:=⟨_,rfl⟩;cases Us:(GW b.t b.m||rn S1 as ((List.replicate as.length none).set j (some ⟨b.t,qY b.t b.m 0,b.x⟩)) args) with
 |false=>rw[Us] at e;cases e
 |true=>
  rw[Us] at e;simp only[cond_true] at e;rw[←Ml,Bool.or_eq_true] at Us;obtain⟨bU,cs,ow,t1,hm,hM,t3,t2⟩:=lV h jU Wc;have anY:=abx h jU hlp Wc hk hm;have FU:j<as.length:=(List.getElem?_eq_some_iff.1 hx).1;obtain⟨r1,r2⟩:=w5 t1 as ts _ (by simp) Vm;let H':Nat->Value:=λn=>cs.getD n undef;have hH':∀ (j:Nat) (u:Value),cs[j]?=some u->H' (0+j)=u:=λj u hj=>(by simp only[H',Nat.zero_add,List.getD_eq_getElem?_getD,hj,Option.getD_some]);have hMt:=ahg (H':=H') (n:=0) b.t hlb hM hH';let Kx:Nat->Option Nat:=λg=>open Classical in if ow g then some j else none
  have Ky:∀ g i,Kx g=some i↔ow g/\j=i:=λg i=>by
   simp only[Kx];split
   ·rename_i hx;exact⟨λhg=>⟨hx,by injection hg⟩,λhg=>by rw[hg.2]⟩
   rename_i hx;exact⟨λhg=>(by cases hg),λhg=>absurd hg.1 hx⟩
  have I2:∀ g,Own Kx g↔ow g:=λg=>⟨λ⟨i,hi⟩=>((Ky g i).1 hi).1,λhg=>⟨j,(Ky g _).2 ⟨hg,rfl⟩⟩⟩;have Vn:∀ g,ow g->Pk bU S1.length g:=λg hg=>(by rw[t2];exact t3.now g hg);let B:Nat->Prop:=λg=>Gz=true/\Av σ Z g/\ ¬ow g;have abv:aU w w (Av σ Z) (Av Kx B):=⟨λ_ _ _=>rfl,λg _ hg=>by
   rcases hg with hg |hg
   ·obtain⟨i,_,hi⟩:=t3.YA g ((I2 g).1 hg)
    exact .inl ⟨i,hi⟩
   ·exact hg.2.1⟩
  have anV:aU w w (Av bU Z) (Av Kx B):=⟨λ_ _ _=>rfl,λg hl hg=>t3.Av.2 (abv.wr g hl hg)⟩;have akM:Gz=false->aU w w (Pk bU S1.length) (Av Kx B):=λhn=>⟨λ_ _ _=>rfl,λg _ hg=>by
   rcases hg with hg |hg
   ·exact Vn g ((I2 g).1 hg)
   ·have h1:=hg.1;rw[hn] at h1;cases h1⟩
  have r3:=λhf:Gz=true=>Ax t1 as ts _ (by simp) Vm (Ml.symm.trans hf)
  have gl:In Γ B H' w Kx args (as.map a.eval):=by
   refine⟨by simp[r1],λg i hg=>?_,λg hg=>⟨?_,?_⟩,λg o hg=>⟨?_,?_⟩,λk r mc=>?_⟩
   ·obtain⟨q1,q2⟩:=(Ky g i).1 hg;obtain⟨k,_,hk⟩:=t3.YA g q1;exact⟨by omega,h.lt g k hk⟩
   ·cases hc:Kx g with
    |none=>rfl
    |some i=>exact absurd ((Ky g i).1 hc).1 hg.2.2
   ·rcases hg.2.1 with⟨i,hi⟩ |hz
    ·exact h.lt g i hi
    have:=(h.old g hz).2;have:=h.fr.size;omega
   ·cases hc:Kx g with
    |none=>rfl
    |some i=>
    obtain⟨k,_,hk⟩:=t3.YA g ((Ky g i).1 hc).1;obtain⟨e1,e2⟩:=hO.env g o hg;rcases h.new g k hk with hx |hx
    ·have:=bh e2;omega
    exact absurd hx e1
   ·obtain⟨e1,e2⟩:=hO.env g o hg;rw[h.fr.block g (bh e2) e1,e2]
   rw[List.getElem?_map];rcases r2 k r mc with⟨b',Up,rfl⟩ |⟨x',GM,tM⟩
   ·rw[List.getElem?_set] at Up;split at Up
    ·rename_i Wy;subst Wy;simp only[List.length_replicate,if_pos FU,Option.some.injEq] at Up;subst Up;rw[hx];exact⟨_,rfl,cs,hm,aG abv _ (λ_ _ _=>rfl) (λg hg _=>(Ky g j).2 ⟨hg,rfl⟩) (λ_ h=>h) hMt⟩
    rw[List.getElem?_replicate] at Up;split at Up<;>simp at Up
   have fin:∀ {A0:Nat->Prop},aU w w A0 (Av Kx B)->PQ w A0 H' r (a.eval x') (λ_=>False)->PQ w (Av Kx B) H' r (a.eval x') (λg=>Kx g=some k):=λcP tM=>by
    cases r with
    |tv b=>obtain⟨c,c1,c2⟩:=tM;exact⟨c,c1,aG cP _ (λ_ _ _=>rfl) (λ_ hg _=>hg.elim) (λ_ h=>h) c2⟩
    |fn f' fc=>obtain⟨vs,c1,c2,c3⟩:=tM;exact⟨vs,c1,c2,λk c hk=>by obtain⟨u,u1,u2⟩:=c3 k c hk;exact⟨u,u1,cv cP _ u2⟩⟩
   cases QQ:Gz with
   |false=>rw[GM];exact⟨_,rfl,fin (akM QQ) (tM H')⟩
   |true=>
   rcases r3 QQ k r mc with⟨b',Up,rfl⟩ |⟨x2,BK,anW⟩
   ·rw[List.getElem?_set] at Up;split at Up
    ·rename_i Wy;subst Wy;simp only[List.length_replicate,if_pos FU,Option.some.injEq] at Up;subst Up;rw[hx];exact⟨_,rfl,cs,hm,aG abv _ (λ_ _ _=>rfl) (λg hg _=>(Ky g j).2 ⟨hg,rfl⟩) (λ_ h=>h) hMt⟩
    rw[List.getElem?_replicate] at Up;split at Up<;>simp at Up
   rw[GM] at BK;injection BK with BK;subst BK;rw[GM];exact⟨_,rfl,fin anV (anW H')⟩
  refine((hO.sd f).1 _ _ ret w Kx _ H' B e gl).mono λv w' hv=>?_;obtain⟨rt,LH,Uq⟩:=hv;split at LH;case h_2=>cases LH
  rename_i c hrefs;rw[←Ml] at LH;cases lP:rt.res.all (λd=>BH d.m&&(oa d.t d.m||Gz)) with
 |false=>rw[lP] at LH;cases LH
 |true=>
  rw[lP] at LH
  simp only[cond_true] at LH
  split at LH
  case isFalse=>cases LH
  rename_i hct
  split at LH
  case isFalse=>cases LH
  rename_i hcm
  split at LH
  case h_2=>cases LH
  rename_i S2 hS2
  obtain⟨ir,vs,q1,q2,q3,q4,q5⟩:=Uq.res
  obtain⟨fH,hMc⟩:=q5 c hrefs
  obtain⟨GN,hR,Vo,cP,adI,tQ,amH⟩:=abw t1 Vn I2 Uq.fr q3
  -- what comes back
  obtain⟨ct,cm,cx⟩:=c
  simp only at hct hcm hMc hS2
  subst hct
  subst hcm
  have anS:aU w w' (Av σ Z) (Av GN Z):=⟨λg hn hl=>cP.same g (λhx=>hn (t3.Av.1 hx)) hl,λg hl hg=>t3.Av.1 (cP.wr g hl hg)⟩
  have anX:GW b.t b.m=true∨aU w' w' (Av ir B) (Av GN Z):=Us.imp id λQQ=>⟨λ_ _ _=>rfl,λg _ hg=>by
   rcases hg with⟨i,hi⟩ |hz
   ·rcases amH g i hi with⟨k,hk⟩ |⟨Hc,hk⟩
    ·exact .inl ⟨k,hk⟩
    ·exact .inr ⟨QQ,t3.Av.1 (.inl ⟨i,hk⟩),Hc⟩
   ·refine .inr ⟨QQ,.inr hz,λhx=>?_⟩
    obtain⟨i,_,hi⟩:=Vn g hx
    rw[(t1.old g hz).1] at hi
    cases hi⟩
  have hMb:=Mj (B:=Av ir B) (A':=Av GN Z) anS b.t hlb anX hM hH' hMc
  have Dc:∀ g,ir g=some rt.res.length->∃ i,S1.length<=i/\GN g=some i:=λg hg=>⟨_,by omega,Vo g _ hg⟩
  have hR2:∃ iB,a6 iB w0 W0 Z H S2 a w'/\(∀ g i,S1.length<=i->¬ir g=some rt.res.length->GN g=some i->iB g=some i)/\∀ g i,iB g=some i->ir g=some rt.res.length∨GN g=some i:=by
   rcases anY with⟨rfl,agN,hmt⟩ |⟨r,ex,dw,hp,iT,hmt,rX,tS,mm,ahk⟩
   ·simp only[St.EK,Option.some.injEq] at hS2
    subst hS2
    exact YQ (b:=⟨b.t,b.m,_⟩) hR Dc (by rw[t2];exact agN) hmt hMb
   ·cases p with
    |nil=>exact absurd rfl hp
    |cons Wj pp=>
    simp only[St.EK,iT] at hS2
    split at hS2
    case h_2=>cases hS2
    rename_i m z CL
    simp only[Option.some.injEq,List.dropLast_concat] at hS2
    subst hS2
    have hh0:=t1.holds s
    rw[iT] at hh0
    obtain⟨aqa,YC,Yb⟩:=hh0
    obtain rfl:=eG hmt YC
    have Mc:open_ (Wj::pp) (ex++[Wj::pp]):=by
     intro q hq s' r' e
     rcases List.mem_append.1 hq with hq |hq
     ·exact JE ahk q hq s' r' e
     ·rw[List.mem_singleton.1 hq] at e
      have:=congrArg length e
      simp at this
    have Qj:s<S1.length:=kT (by rw[iT];exact λe=>by cases e)
    have akK:=(lT cP (Wj::pp) none Yb (λg hg _=>tQ g s Qj hg) Mc tS).1
    exact PR (b:=⟨b.t,b.m,_⟩) hR Dc iT hmt (akK.trans rX) tS mm ahk CL hMb
  refine⟨_,LH,?_⟩
  obtain⟨σ3,hR3,hR4,hR5⟩:=hR2
  replace hR3:=ahj (s:=s) h hR3
  revert hR3
  generalize St.again S S2 s=S2
  intro hR3
  have atL:S2.length=S1.length:=by have:=hR3.len;have:=t1.len;omega
  obtain⟨n,hn⟩:∃ n,n=rt.res.length:=⟨_,rfl⟩
  have as1:∀ g k,k<n->ir g=some k->σ3 g=some (S1.length+k):=λg k hk hg=>hR4 g _ (by omega) (λe=>by rw[hg] at e;injection e with e;omega) (Vo g k hg)
  refine⟨_,hR3.adz (ow:=λg=>∃ k,k<n/\ir g=some k) (Nat.le_refl _) (λ_ _ _=>rfl) hR3.fr (λg ⟨k,hk1,hk⟩=>⟨(q3 g k hk).2,.inl ⟨S1.length+k,by omega,as1 g k hk1 hk⟩⟩) λd _ g1 g2=>?_⟩
  have aql:Gz=true->aU w' w' (Av ir B) (Av (ob σ3 o.dst λg=>∃ k,k<n/\ir g=some k) Z):=λQQ=>⟨λ_ _ _=>rfl,λg _ hg=>by
   rcases g2 g hg with (⟨i,hi⟩ |hz) |⟨k,_,hk⟩
   ·rcases hR5 g i hi with hk |hi
    ·exact .inl ⟨_,hk⟩
    ·rcases amH g i hi with⟨k,hk⟩ |⟨Hc,hk⟩
     ·exact .inl ⟨k,hk⟩
     ·exact .inr ⟨QQ,t3.Av.1 (.inl ⟨i,hk⟩),Hc⟩
   ·refine .inr ⟨QQ,.inr hz,λhx=>?_⟩
    obtain⟨i,_,hi⟩:=Vn g hx
    rw[(t1.old g hz).1] at hi
    cases hi
   ·exact .inl ⟨k,hk⟩⟩
  have Mf:∀ (i:Nat) (b:TV),rt.res[i]?=some b->∃ u cs,vs[i]?=some u/\ah b.t u cs/\M w' (Av (ob σ3 o.dst λg=>∃ k,k<n/\ir g=some k) Z) H b.t b.m b.x cs (λg=>i<n/\ir g=some i) []:=λi b hb=>by
   obtain⟨u,c,u1,u2,u3⟩:=q4 i b hb
   have Uh:i<n:=by rw[hn];exact(List.getElem?_eq_some_iff.1 hb).1
   have hsb:=List.all_eq_true.1 lP b (List.mem_of_getElem? hb)
   simp only[Bool.and_eq_true,Bool.or_eq_true] at hsb
   refine⟨u,c,u1,u2,?_⟩
   rcases hsb.2 with hs |QQ
   ·exact aG (aU.refl _ _) _ (λ_ _ _=>rfl) (λg hg _=>⟨Uh,hg⟩) (λ_ h=>h) (yH _ hsb.1 (tZ _ hs u3))
   ·exact aG (aql QQ) _ (λ_ _ _=>rfl) (λg hg _=>⟨Uh,hg⟩) (λ_ h=>h) (yH _ hsb.1 u3)
  have ahi:∀ l:List TV,l=rt.res->Holds w' (Av (ob σ3 o.dst λg=>∃ k,k<n/\ir g=some k) Z) H (cn (a.put o.dst v)) (S2.put o.dst (.Ih (l.map some))) (λg=>ob σ3 o.dst (λg=>∃ k,k<n/\ir g=some k) g=some d) (.Ih (l.map some)) (.tuple vs.toArray):=λl hl=>by
   subst hl
   refine⟨vs,λg=>(ir g).getD 0,rfl,by simp[q2],λj b hj=>?_⟩
   rw[List.getElem?_map] at hj
   cases hb:rt.res[j]? with
   |none=>rw[hb] at hj;cases hj
   |some b'=>
    rw[hb] at hj
    simp only[Option.map_some,Option.some.injEq] at hj
    subst hj
    obtain⟨u,c,u1,u2,u3⟩:=Mf j b' hb
    exact⟨u,c,u1,u2,aG (aU.refl _ _) _ (λ_ _ _=>rfl) (λg hg _=>⟨g1 g ⟨j,hg⟩,by show(ir g).getD 0=j;rw[hg.2];rfl⟩) (λ_ h=>h) u3⟩
  subst q1
  match RX:rt.res,q2 with
 |[b],q2=>
  match vs,q2 with
  |[u],_=>
   obtain⟨u',c,u1,u2,u3⟩:=Mf 0 b (by rw[RX];rfl)
   simp only[List.getElem?_cons_zero,Option.some.injEq] at u1
   subst u1
   exact⟨c,u2,aG (aU.refl _ _) _ (λ_ _ _=>rfl) (λg hg _=>g1 g ⟨0,hg⟩) (λ_ h=>h) u3⟩
 |[],q2=>
  match vs,q2 with
  |[],_=>exact ahi [] RX.symm
 |b::b'::r,q2=>
  match vs,q2 with
  |u::u'::vr,_=>exact ahi (b::b'::r) RX.symm
end Go.Pv
namespace Go.Pv
open List Int IntKind
variable {P:Program} {w w':World} {A A' Wr:Nat->Prop} {H:Nat->Value} {tm FP:Nat->Value} {S S' S1:St} {σ bU iB:Nat->Option Nat} {w0:World} {W0 Z:Nat->Prop} {a:Act} {own:Nat->Prop} {v:Value} {Θ:fA} {dst:Option Nat}
theorem a6.drop (h:a6 σ w0 W0 Z H S a w) (ow:Nat->Prop) (GL:∀ g,ow g->∀ i,σ g=some i->S.length<=i): ∃ iB,a6 iB w0 W0 Z H S a w/\(∀ g,Av iB Z g->Av σ Z g/\ ¬ow g∨Z g):=by
 let iB:Nat->Option Nat:=λg=>open Classical in if ow g then none else σ g
 have h2:∀ g i,iB g=some i->¬ow g/\σ g=some i:=λg i hg=>by
  simp only[iB] at hg;split at hg
  ·cases hg
  exact⟨by assumption,hg⟩
 have h3:∀ g i,¬ow g->σ g=some i->iB g=some i:=λg i hn hg=>by simp only[iB,if_neg hn,hg]
 have cP:aU w w (Av σ Z) (Av iB Z):=⟨λ_ _ _=>rfl,λg _ hg=>by
  rcases hg with⟨i,hi⟩ |hz
  ·exact .inl ⟨i,(h2 g i hi).2⟩
  ·exact .inr hz⟩
 refine⟨iB,⟨h.len,h.defers,h.fr,λg i hg=>h.new g i (h2 g i hg).2,λg i hg=>h.lt g i (h2 g i hg).2,λg hg=>⟨?_,(h.old g hg).2⟩,λi=>?_⟩,λg hg=>?_⟩
 ·simp only[iB];split
  ·rfl
  exact(h.old g hg).1
 ·by_cases Uh:i<S.length
  ·refine(h.holds i).kept cP (λg hg _=>⟨rfl,h3 g i (λhx=>?_) hg⟩) (λs hs=>⟨λ_ _ h=>h,rfl,_,h.holds s,λ_ _ _=>rfl⟩);have:=GL g hx i hg;omega
  have hd:S.at i=.dead:=Classical.byContradiction λhx=>Uh (kT hx);rw[hd];trivial
 rcases hg with⟨i,hi⟩ |hz
 ·exact .inl ⟨.inl ⟨i,(h2 g i hi).2⟩,(h2 g i hi).1⟩
 exact .inr hz
theorem BN:∀ (p:Path) {t:Ty} {m:Md} {x:t.I} {b:TV},Yc p=true->a7 p t m x=some b->valid p t x
 |[],_,_,_,_,_,_=>trivial
 | .idx _::_,_,_,_,_,h,_=>by simp[Yc] at h
 | .deref::p,t,m,x,b,h,e=>by cases t<;>simp only[a7] at e<;>first |cases e |exact BN p h e
 | .fst::p,t,m,x,b,h,e=>by cases t<;>simp only[a7] at e<;>first |cases e |exact BN p h e
 | .snd::p,t,m,x,b,h,e=>by cases t<;>simp only[a7] at e<;>first |cases e |exact BN p h e
theorem a6.freeze (h:a6 σ w0 W0 Z H S a w) {d:Nat} {r:TV} (iT:S.at d=.v r []):Rel w0 W0 Z H (S.put (some d) (.v (kTV r) [])) a w:=by
 have hh:=h.holds d;rw[iT] at hh;obtain⟨cs,hm,hM⟩:=hh;have h0:∀ g,σ g=some d->¬Av (release σ (some d)) Z g:=λg hg hx=>by
  rcases hx with⟨i,hi⟩ |hz
  ·obtain⟨h1,h2⟩:=lv hi;rw[hg] at h1;exact h2 h1
  rw[(h.old g hz).1] at hg;cases hg
 have cP:aU w w (Av σ Z) (Av (release σ (some d)) Z):=⟨λ_ _ _=>rfl,λg _ hg=>Ko hg⟩;refine⟨release σ (some d),?_⟩;have:=h.put (dst:=some d) (av:=.v (kTV r) []) (v:=cn a d) cP h.fr (λg i hg=>⟨h.new g i (lv hg).1,h.lt g i (lv hg).1⟩) (λg hg=>by
  unfold release
  split
  ·rfl
  ·exact(h.old g hg).1) (λi g _ hd hg=>⟨rfl,zP hd hg⟩) (λd' hd' _ _=>by
  injection hd' with hd'
  subst hd'
  refine⟨cs,hm,CG (t:=r.t) rfl (M_K (λg _ hx=>Ko hx) r.t rfl h0 hM)⟩)
 rw[x6] at this;exact this
theorem afm (h:Rel w0 W0 Z H S a w) {d:Nat} (e:adn S d=some (true,S')):Rel w0 W0 Z H S' a w:=by
 obtain⟨σ,h⟩:=h;unfold adn at e;split at e;case h_2=>cases e
 rename_i t s st pp iT;split at e;case h_2=>cases e
 rename_i r ex hs;split at e;case h_2=>cases e
 rename_i b mm;cases hk:b.m.b5 with
 |true=>rw[hk] at e;cases e
 |false=>
 rw[hk] at e;simp only[cond_false,Option.some.injEq,Prod.mk.injEq] at e;obtain⟨rX,rfl⟩:=e;have hal:=h.holds d;rw[iT] at hal;obtain⟨bU,cs2,ow,t1,hm,hM,hk1,hn⟩:=Hb (vv:=cn a d) h (by simp) hal hs mm hk (λq hq=>by simpa using List.all_eq_true.1 rX q hq);have:=t1.Wn (dst:=some d) (v:=cn a d) (ow:=ow) (A':=Av bU Z) (λ_ _=>rfl) t1.fr (λg hg=>by
  obtain⟨i,hi,yB⟩:=hk1.now g hg
  exact⟨t1.lt g i yB,.inl ⟨i,by omega,yB⟩⟩) (λg _ hg=>by
  rcases hg with hg |hg
  ·exact hg
  ·obtain⟨i,hi,yB⟩:=hk1.now g hg
   exact .inl ⟨i,yB⟩) hm hM
 rw[x6] at this;exact⟨_,this⟩
theorem RY (h:Rel w0 W0 Z H S a w) (q:Nat×Path):Rel w0 W0 Z H (S.akn q) a w:=by
 obtain⟨σ,h⟩:=h;obtain⟨s,p⟩:=q;unfold St.akn;simp only;split;case h_2=>exact⟨σ,h⟩
 rename_i r iT;split;case h_2=>exact⟨σ,h⟩
 rename_i b mm;cases hc:(b.m.b5|| !Yc p) with
 |true=>exact⟨σ,h⟩
 |false=>
 simp only[cond_false];simp only[Bool.or_eq_false_iff,Bool.not_eq_false'] at hc;obtain⟨hk,hni⟩:=hc;split
 ·exact h.freeze iT
 rename_i hp;split;case h_2=>exact⟨σ,h⟩
 rename_i m z CL;have hh:=h.holds s;rw[iT] at hh;obtain⟨dw,Mi,Yb⟩:=hh;have tS:=BN p hni mm;have Mc:open_ p []:=λ_ hq=>by cases hq
 obtain⟨cs,fp,k1,k2,k3⟩:=focus p Yb Mc tS mm
 have hal:∃ t vv,Holds w (Av σ Z) H (cn a) S (λ_=>False) (.al t s p) vv/\t=b.t/\ah t vv cs:=by
  obtain⟨vv,hvv⟩:∃ vv,ah b.t vv cs:=by
   unfold ah;cases hg:isAgg b.t with
   |true=>exact⟨_,by rw[if_pos rfl]⟩
   |false=>have hl:=(lQ _ k3).1;have h1:=U' hg;rw[h1] at hl;obtain⟨u,rfl⟩:=List.length_eq_one_iff.1 hl;exact⟨u,by simp⟩
  exact⟨b.t,vv,⟨r,dw,cs,⟨⟨[],iT,Mc⟩,tS,⟨b,mm,rfl⟩,Mi⟩,k1,hvv⟩,rfl,hvv⟩
 obtain⟨t,vv,hal,rfl,hvv⟩:=hal;obtain⟨bU,cs2,ow,t1,hm,hM,hk1,hn⟩:=Hb (vv:=vv) h hp hal iT mm hk (λ_ hq=>by cases hq);obtain rfl:=eG hvv hm;obtain⟨iB,d1,d2⟩:=t1.drop ow (λg hg i hi=>by
  obtain⟨j,hj,Ew⟩:=hk1.now g hg
  rw[hi] at Ew
  injection Ew with Ew
  omega)
 have hK:K w (Av iB Z) b.t b.x cs:=M_K (λg _ hx=>by
  rcases d2 g hx with hx |hx
  ·exact hx.1
  ·exact .inr hx) b.t rfl (λg hg hx=>by
  rcases d2 g hx with hx |hx
  ·exact hx.2 hg
  ·obtain⟨j,_,hj⟩:=hk1.now g hg
   rw[(t1.old g hx).1] at hj;cases hj) hM
 have as2:St.at (((S.weaken s).cover s p).set s (.v r [p])) s=.v r ([]++[p]):=by rw[eH,if_pos ⟨rfl,by simp only[St.weaken,St.cover,List.length_map];exact kT (by rw[iT];exact λe=>by cases e)⟩];rfl
 obtain⟨σ3,h3,_⟩:=PR (b:=kTV b) (Dd:=λ_=>False) (ex:=[]) d1 (λ_ h=>h.elim) as2 Mi k1 tS mm (λ_ hq=>by cases hq) CL (CG (t:=b.t) rfl hK);exact⟨σ3,h3⟩
theorem YR:∀ (l:List (Nat×List (Nat×Path))) {id:Nat},Rel w0 W0 Z H S a w->Rel w0 W0 Z H (aaY l id S) a w
 |[],_,h=>h
 |q::r,id,h=>by
  unfold aaY;cases Nat.beq q.1 id with
  |true=>
   simp only[cond_true];generalize q.2=l;induction l generalizing S with
   |nil=>exact h
   |cons x l ih=>exact ih (RY h x)
  |false=>exact YR r h
end Go.Pv
