/- A verified evaluator of the program's form over pure values, part 3: what it tells of a function holds. -/
import Derived.Test.YtdacecahpdgooaaGreatDoorPv2
import Derived.Deep.AppendSrc
import Derived.Deep.Upon
import Derived.OrdersHeld
namespace Go.Pv
set_option linter.unusedVariables false
set_option linter.unusedSimpArgs false
variable {P:Program} {w w':World} {A A' Wr:Nat→Prop} {H:Nat→Value} {tm o7:Nat→Value} {S S' S1:St} {σ bK du:Nat→Option Nat} {w0:World} {W0 Z:Nat→Prop} {a:Act} {own:Nat→Prop} {v:Value} {Θ:cK} {dst:Option Nat}
theorem GM {s:Nat} (eD:List (List Value)) (h:∀ c∈eD,c.length=s) (j:Nat) (hj:j<eD.length):(eD.flatten.drop (j*s)).take s=eD[j]:=by
 have h1:(eD.take j).flatten.length=j*s:=by
  rw[jk s (fun c hc=>h c (List.mem_of_mem_take hc)),List.length_take,Nat.min_eq_left (by omega)]
 rw[oc eD j hj, ←h1,List.drop_left, ←h (eD[j]) (List.getElem_mem hj),List.take_left]
theorem Yl {t:Ty} {m:Md} {xs:List t.I} {eD:List (List Value)} {ow:Nat→Prop} {τ:Nat→Nat} (e:TypeId) (hl:eD.length=xs.length)
  (hM:∀ (j:Nat) (hj:j<xs.length),M w A H t m xs[j] (eD[j]'(by omega)) (fun g=>ow g∧τ g=j) []) (cI:∀ g,ow g→g<w.heap.size) (agG:xs.length≤maxLen):
  M (w.alloc (.cells eD.flatten.toArray e)) (fun g=>A g∨w.heap.size≤g) H (.sl t) (.o e none m) xs [.slice (some ⟨w.heap.size,0,none⟩) xs.length xs.length] (fun g=>ow g∨g=w.heap.size) []:=by
 have fq:∀ c∈eD,c.length=t.size:=fun c hc=>by
  obtain⟨j,hj,rfl⟩:=List.mem_iff_getElem.1 hc
  exact(eS t (hM j (by omega))).1
 simp only[M]
 refine .inr (.inr ⟨e,none,m,some ⟨w.heap.size,0,none⟩,xs.length,rfl,rfl,Nat.le_refl _,fun h hh=>(by cases hh),.inr ⟨w.heap.size,eD.flatten.toArray,τ,rfl,.inr rfl,heap_alloc_new w _, ?_,agG,fun j hj=> ?_⟩⟩)
 ·rw[List.size_toArray,jk t.size fq,hl]
 ·rw[List.toList_toArray,GM eD fq j (by omega)]
  refine aN (w:=w) ⟨fun g _ hg=>heap_alloc_old w _ g hg,fun g hg hx=> ?_⟩ t (fun g hg hl=>heap_alloc_old w _ g hl) (fun g hg hl=>⟨.inl hg.1,by omega,hg.2⟩) (fun _ h=>by simp at h) (hM j hj)
  rcases hx with hx |hx
  ·exact hx
  ·omega
theorem CD (zl:List Value):∀ n,madeCells zl.toArray (n*zl.length)=(List.replicate n zl).flatten.toArray:=by
 intro n
 unfold madeCells
 apply Array.toList_inj.1
 simp only[Array.toList_map,Array.toList_range,List.toList_toArray]
 induction n with
 |zero=>simp
 |succ n ih=>
  rw[Nat.add_mul,Nat.one_mul,List.range_add,List.map_append,ih,List.replicate_succ',List.flatten_append]
  congr 1
  simp only[List.map_map,List.flatten_cons,List.flatten_nil,List.append_nil]
  apply List.ext_getElem?
  intro k
  by_cases hk:k<zl.length
  ·simp[hk,Function.comp_def,Nat.mod_eq_of_lt hk]
  ·simp[hk]
theorem vR {t:Ty} {m:Md}:∀ {l:List TV} {xs:List t.I},pk t m l=some xs→xs.length=l.length∧∀ (k:Nat) (hk:k<xs.length),l[k]? =some ⟨t,m,xs[k]⟩
 |[],xs,h=>by
  simp only[pk,Option.some.injEq] at h
  subst h
  exact⟨rfl,fun k hk=>by simp at hk⟩
 |b::r,xs,h=>by
  simp only[pk] at h
  split at h
  ·rename_i ht
   split at h
   ·rename_i hm
    split at h
    ·rename_i l hl
     injection h with h
     subst h
     obtain⟨h1,h2⟩:=vR hl
     obtain⟨bt,bm,bx⟩:=b
     simp only at ht hm
     subst ht hm
     refine⟨by simp[h1],fun k hk=> ?_⟩
     cases k with
     |zero=>rfl
     |succ k=>simpa using h2 k (by simpa using hk)
    ·cases h
   ·cases h
  ·cases h
theorem BU (hT:cM P Θ=true) (h:bd σ w0 W0 Z H S a w) {hn:Hn} {o:Oper} {T:TypeId} {n:Nat} {ps:Array (Nat×Operand)} (ho:o.op=.buildSlice T n ps) (e:bF Θ hn S o.dst T n ps.toList=some (true,S')):vQ P w0 W0 Z H S' a o.dst w (execOp a.eval o):=by
 unfold bF at e
 split at e
 case h_2=>cases e
 rename_i T0 t te fs0 hi
 cases hc:(ja n ps.toList&&Nat.ble n 1800) with
 |false=>rw[hc] at e;cases e
 |true=>
 rw[hc] at e
 simp only[cond_true] at e
 simp only[Bool.and_eq_true] at hc
 obtain⟨JP,aa7⟩:=hc
 have aa7:=Nat.le_of_ble_eq_true aa7
 split at e
 case h_2=>cases e
 rename_i l S1 hl
 obtain⟨bK,ow,τ,eD,h1,hnn,hk,l9,hll,hj,iG⟩:=od hT ps.toList _ 0 h hl
 rw[List.length_replicate] at hll
 obtain⟨_,hu,PX⟩:=cO hT hi
 simp only at PX
 subst PX
 obtain⟨u1,u2,u3⟩:=jI hu rfl
 simp only at u1 u2
 obtain⟨i2,lP,ht2⟩:=dz u2
 obtain⟨⟨sm,inf,z,k1,k2,_,_,_,k3,k4⟩,_,hte⟩:=cO hT lP
 rw[hte] at k1
 rw[ht2] at k2 k4 sm
 have cI:∀ g,ow g→g<w.heap.size:=fun g hg=>by
  obtain⟨i,_,hi⟩:=hk.GF g hg
  exact h.lt g i hi
 -- all parts are of the type
 have fq:(∃ m xs m',pk t m l=some xs∧(m'=.o te none m∨(m'=.k∧m.bQ=true))∧S'=S1.put o.dst (.v ⟨.sl t,m',xs⟩ [])):=by
  split at e
  ·simp only[Option.some.injEq,Prod.mk.injEq,true_and] at e
   cases hf:hn.OM o.dst with
   |true=>exact⟨.k,[],_,rfl,.inr ⟨by rw[hf];rfl,rfl⟩,e.symm⟩
   |false=>exact⟨_,[],_,rfl,.inl (by rw[hf];rfl),e.symm⟩
  ·split at e
   ·rename_i xs hxs
    simp only[Option.some.injEq,Prod.mk.injEq,true_and] at e
    refine⟨_,xs,_,hxs, ?_,e.symm⟩
    generalize hf:(hn.OM o.dst&&_)=q
    cases q with
    |true=>
     simp only[Bool.and_eq_true] at hf
     exact .inr ⟨rfl,hf.2⟩
    |false=>exact .inl rfl
   ·cases e
 obtain⟨m,xs,m',hxs,hm',rfl⟩:=fq
 obtain⟨x1,x2⟩:=vR hxs
 have eQ:∀ (k:Nat) (b:TV),l[k]? =some b→b.t=t:=fun k b hb=>by
  have hkl:k<xs.length:=by rw[x1];exact(List.getElem?_eq_some_iff.1 hb).1
  rw[x2 k hkl] at hb
  injection hb with hb
  rw[←hb]
 have hzl:(l.map fun b=>zc b.t)=List.replicate n (zc t):=by
  apply List.ext_getElem?
  intro k
  rw[List.getElem?_map,List.getElem?_replicate]
  by_cases hkl:k<l.length
  ·rw[if_pos (by omega),List.getElem?_eq_getElem hkl,Option.map_some,eQ k _ (List.getElem?_eq_getElem hkl)]
  ·rw[if_neg (by omega),List.getElem?_eq_none (by omega)]
   rfl
 have QU:=yY (a:=a) (ps:=ps.toList) (l:=l) (eD:=eD) (place:=fun k=>some (k*t.size,t.size)) l9 (by rw[hll];exact JP) (fun k b cs hb jS=>by
   obtain⟨cL,c1,c2,_⟩:=iG k b hb
   rw[c1] at jS
   injection jS with jS
   subst jS
   exact eS _ c2) (fun k b hb=>by
   obtain⟨cL,c1,_,c3⟩:=iG k b hb
   simp only[Nat.zero_add] at c3
   exact⟨cL,c1,c3⟩) (fun k hk=>by
   rw[eQ k _ (List.getElem?_eq_getElem hk),hzl]
   congr 2
   unfold ny
   rw[List.take_replicate,Nat.min_eq_left (by omega),List.map_replicate,List.sum_replicate_nat,lQ])
 have hz1:z.cells=(zc t).toArray:=gL k4 (fun u hu=> ?_)
 rotate_left
 ·-- one cell each
  have:∀ (t:Ty),∀ u∈zc t,u.oneCell'=true:=by
   intro t
   induction t with
   |pair a b iha ihb=>intro u hu;simp only[zc,List.mem_append] at hu;rcases hu with hu |hu;exact iha u hu;exact ihb u hu
   |arr n t ih=>intro u hu;simp only[zc,List.mem_flatten] at hu;obtain⟨c,hc,hu⟩:=hu;rw[List.eq_of_mem_replicate hc] at hu;exact ih u hu
   |unit=>intro u hu;simp[zc] at hu
   |_=>intro u hu;simp only[zc,List.mem_singleton] at hu;subst hu;rfl
  exact this t u hu
 have WG:eD.length=xs.length:=by omega
 have GN:=Yl (w:=w) (A:=Av σ Z) (H:=H) (t:=t) (m:=m) (xs:=xs) (eD:=eD) (ow:=ow) (τ:=τ) te WG (fun j hj=>by
   have pg:=x2 j hj
   obtain⟨cL,c1,c2,_⟩:=iG j _ pg
   rw[List.getElem?_eq_getElem (by omega)] at c1
   injection c1 with c1
   rw[c1]
   simpa using c2) cI (by simp only[maxLen];omega)
 have cQ:(Instr.buildSlice T0 n (ps.map fun(j,x)=>(j,a.eval x))).run P w=.ok (.slice (some ⟨w.heap.size,0,none⟩) n n) (w.alloc (.cells eD.flatten.toArray te)):=by
  have iD: ¬n*t.size>2^24:=by
   have:=Nat.mul_le_mul aa7 sm
   omega
  have QV:Instr.fill (fun i=>some (i*t.size,t.size)) ((Array.range (n*t.size)).map (z.cells[· %z.cells.size]!)) (ps.map fun x=>(x.1,a.eval x.2)).toList=some eD.flatten.toArray:=by
   have:=CD (zc t) n
   unfold madeCells at this
   rw[hz1,Array.toList_map]
   rw[lQ] at this
   rw[this, ←hzl]
   exact QU
  have hso:(sizeOf te).run P w=.ok t.size w:=by
   simp[sizeOf,typeInfo,k1,k2]
  have hzv:(zeroValue te).run P w=.ok z w:=by
   simp[zeroValue,typeInfo,k1,k3]
  by_cases h0:n*t.size=0
  ·have aa8:Instr.fill (fun i=>some (i*t.size,t.size)) ((Array.range (n*t.size)).map ((#[]:Array Value)[· %(#[]:Array Value).size]!)) (ps.map fun x=>(x.1,a.eval x.2)).toList=some eD.flatten.toArray:=by
    rw[←QV,h0]
    simp[Array.range_zero']
   unfold Instr.buildSlice
   simp only[Sem.run_bind,run_underlying u1,Result.andThen_ok,hso,iD,if_false]
   rw[if_pos h0]
   simp only[Sem.run_bind,Sem.run_pure,Result.andThen_ok,aa8]
   simp[newRow]
  ·unfold Instr.buildSlice
   simp only[Sem.run_bind,run_underlying u1,Result.andThen_ok,hso,iD,if_false]
   rw[if_neg h0]
   simp only[Sem.run_bind,Sem.run_pure,hzv,Result.andThen_ok,QV]
   simp[newRow]
 have hex:(execOp a.eval o).run P w=.ok (.value (.slice (some ⟨w.heap.size,0,none⟩) n n)) (w.alloc (.cells eD.flatten.toArray te)):=by
  simp only[execOp,ho,Sem.run_bind,cQ,Result.andThen_ok]
  rfl
 have ajc:∀ g,Av bK Z g→g<w.heap.size:=fun g hg=>by
  rcases hg with⟨i,hi⟩ |hz
  ·exact h1.lt g i hi
  ·have:=(h1.old g hz).2;have:=h1.fr.size;omega
 rcases hm' with rfl |⟨rfl,hmk⟩
 ·refine⟨w.alloc (.cells eD.flatten.toArray te),.slice (some ⟨w.heap.size,0,none⟩) n n,hex,fun g hg=>heap_alloc_old w _ g hg,_,h1.GG (b:=⟨.sl t,.o te none m,xs⟩) (cs:=[.slice (some ⟨w.heap.size,0,none⟩) n n]) (fun g hg=>heap_alloc_old w _ g hg) (h1.fr.alloc _) (fun g hg=> ?_) (fun g hg hx=> ?_) (by simp[an,isAgg]) (by
   have:xs.length=n:=by omega
   rw[this] at GN
   exact GN)⟩
  ·rcases hg with hg |rfl
   ·obtain⟨i,hi,bX⟩:=hk.now g hg
    have:=cI g hg
    exact⟨by simp only[World.alloc,Array.size_push];omega,.inl ⟨i,by omega,bX⟩⟩
   ·exact⟨by simp only[World.alloc,Array.size_push];omega,.inr (Nat.le_refl _)⟩
  ·rcases hx with hx |hx |rfl
   ·exact .inl (hk.Av.1 hx)
   ·obtain⟨i,_,hi⟩:=hk.GF g hx
    exact .inl (.inl ⟨i,hi⟩)
   ·exact .inr (Nat.le_refl _)
 ·refine⟨w.alloc (.cells eD.flatten.toArray te),.slice (some ⟨w.heap.size,0,none⟩) n n,hex,fun g hg=>heap_alloc_old w _ g hg,_,h1.GG (b:=⟨.sl t,.k,xs⟩) (cs:=[.slice (some ⟨w.heap.size,0,none⟩) n n]) (ow:=fun _=>False) (A':=Av bK Z) (fun g hg=>heap_alloc_old w _ g hg) (h1.fr.alloc _) (fun g hg=>hg.elim) (fun g hg hx=>hx.resolve_right id) (by simp[an,isAgg]) (ng (t:=.sl t) rfl ?_)⟩
  have hxn:xs.length=n:=by omega
  show K _ _ (.sl t) xs _
  have WT:∀ c∈eD,c.length=t.size:=fun c hc=>by
   obtain⟨j,hj,rfl⟩:=List.getElem_of_mem hc
   obtain⟨cL,c1,c2,_⟩:=iG j _ (x2 j (by omega))
   rw[List.getElem?_eq_getElem hj] at c1
   injection c1 with c1
   rw[c1]
   exact(eS _ c2).1
  have Cw:eD.flatten.length=n*t.size:=by rw[jk t.size WT,WG,hxn]
  simp only[K]
  refine⟨some ⟨w.heap.size,0,none⟩,n,by rw[hxn],by omega,fun _=>⟨w.heap.size,0,eD.flatten.toArray,te,(0,0),rfl,fun hx=>absurd (ajc _ hx) (Nat.lt_irrefl _),heap_alloc_new w _,by simp only[List.size_toArray,Cw,hxn];omega,fun j hj'=> ?_⟩⟩
  obtain⟨cL,c1,c2,_⟩:=iG j _ (x2 j hj')
  rw[List.getElem?_eq_getElem (by omega)] at c1
  injection c1 with c1
  have fU:=GM eD WT j (by omega)
  simp only[Nat.zero_add]
  rw[fU,c1]
  refine bR ⟨fun g _ hg=>heap_alloc_old w _ g hg,fun g _ hg=>hk.Av.1 hg⟩ t (eU t hmk c2)
theorem DI (hT:cM P Θ=true) (h:bd σ w0 W0 Z H S a w) {o:Oper} {T:TypeId} {l c:Operand} (ho:o.op=.makeSlice T l c) (e:fF Θ S o.dst T l c=some (true,S')):vQ P w0 W0 Z H S' a o.dst w (execOp a.eval o):=by
 unfold fF at e
 split at e
 case h_2=>cases e
 rename_i T0 t te fs0 n n' hi hl hc
 split at e
 case h_2=>cases e
 rename_i z hz
 split at e
 case isFalse=>cases e
 rename_i hzt
 simp only[Option.some.injEq,Prod.mk.injEq,Bool.and_eq_true,decide_eq_true_eq] at e
 obtain⟨⟨⟨rfl,h0⟩,h40⟩,rfl⟩:=e
 obtain⟨kl,hl⟩:=gK h hl
 obtain⟨kc,hc⟩:=gK h hc
 obtain⟨_,hu,PX⟩:=cO hT hi
 simp only at PX
 subst PX
 obtain⟨u1,u2,u3⟩:=jI hu rfl
 simp only at u1
 obtain⟨i,inf,zv,lP,eQ,hx,po,q1,q2,q3,q4,q5,q6⟩:=u9 hT hz
 have JX:M w (Av σ Z) H z.t z.m z.t.z (zc z.t) (fun _=>False) []:=yT z.t po
 have hzc:zv.cells=(zc z.t).toArray:=gL q4 (eS _ JX).2
 have cQ:=run_make (P:=P) w T0 te inf zv u1 q1 q3 kl kc n n h0 (Int.le_refl _) (by
  have h1:(inf.bytes:Int)≤256:=by omega
  calc (inf.bytes:Int)*n≤256*n:=Int.mul_le_mul_of_nonneg_right h1 h0
   _≤281474976710656:=by omega) (by omega)
 rw[q2,hzc, ←lQ,CD] at cQ
 have GN:=Yl (w:=w) (A:=Av σ Z) (H:=H) (t:=t) (m:=z.m) (xs:=List.replicate n.toNat t.z) (eD:=List.replicate n.toNat (zc z.t)) (ow:=fun _=>False) (τ:=fun _=>0) te (by simp) (fun j hj=>by
   subst hzt
   simp only[List.getElem_replicate]
   exact DE JX) (fun _ h=>h.elim) (by simp only[List.length_replicate,maxLen];omega)
 refine⟨w.alloc (.cells (List.replicate n.toNat (zc z.t)).flatten.toArray te),_, ?_,fun g hg=>heap_alloc_old w _ g hg,_,h.GG (b:=⟨.sl t,.o te none z.m,List.replicate n.toNat t.z⟩) (cs:=[.slice (some ⟨w.heap.size,0,none⟩) n.toNat n.toNat]) (w':=w.alloc (.cells (List.replicate n.toNat (zc z.t)).flatten.toArray te)) (v:=.slice (some ⟨w.heap.size,0,none⟩) n.toNat n.toNat) (fun g hg=>heap_alloc_old w _ g hg) (h.fr.alloc _) (fun g hg=> ?_) (fun g hg hx=> ?_) (by simp[an,isAgg]) (by
   rw[List.length_replicate] at GN
   exact GN)⟩
 ·simp only[execOp,ho,hl,hc,Sem.run_bind,cQ,Result.andThen_ok]
  rfl
 ·rcases hg with hg |rfl
  ·exact hg.elim
  ·exact⟨by simp only[World.alloc,Array.size_push];omega,.inr (Nat.le_refl _)⟩
 ·rcases hx with hx |hx |rfl
  ·exact .inl hx
  ·exact hx.elim
  ·exact .inr (Nat.le_refl _)
end Go.Pv
namespace Go.Pv
set_option linter.unusedVariables false
set_option linter.unusedSimpArgs false
variable {P:Program} {w w':World} {A A' Wr:Nat→Prop} {H:Nat→Value} {tm o7:Nat→Value} {S S' S1:St} {σ bK du:Nat→Option Nat} {w0:World} {W0 Z:Nat→Prop} {a:Act} {own:Nat→Prop} {v:Value} {Θ:cK} {dst:Option Nat}
theorem tK {olds news:List Value} {s n j:Nat} (hl:olds.length=n*s) (hj:j<n):((olds++news).drop (j*s)).take s=(olds.drop (j*s)).take s:=by
 have h1:(j+1)*s≤n*s:=Nat.mul_le_mul_right s hj
 rw[Nat.add_mul,Nat.one_mul] at h1
 rw[List.drop_append_of_le_length (by omega),List.take_append_of_le_length (by rw[List.length_drop];omega)]
theorem CE {olds news:List Value} {s n j:Nat} (hl:olds.length=n*s):((olds++news).drop ((n+j)*s)).take s=(news.drop (j*s)).take s:=by
 rw[Nat.add_mul, ←hl,List.drop_append,Nat.add_sub_cancel_left,List.drop_eq_nil_of_le (Nat.le_add_right _ _),List.nil_append]
theorem tL {cur:List Value} {s n j:Nat} (hj:j<n):((cur.take (n*s)).drop (j*s)).take s=(cur.drop (j*s)).take s:=by
 have h1:(j+1)*s≤n*s:=Nat.mul_le_mul_right s hj
 rw[Nat.add_mul,Nat.one_mul] at h1
 rw[List.drop_take,List.take_take,Nat.min_eq_left (by omega)]
theorem xA {g o:Nat} {t:TypeId} {cur:Array Value} {vs:List Value} (hw:w.heap[g]? =some (.cells cur t (0,0))) (hb:o+vs.length≤cur.size) (h1:∀ u∈vs,u.oneCell'=true):
  w.setCells g o vs=w.setRow g (putCells cur.toList o vs).toArray:=by
 have e1:=run_storeCells_at (P:=(default:Program)) g o t vs 0 cur w hw (by omega) h1
 have e2:=run_storeCells_cells (P:=(default:Program)) g o vs 0 w (fun j hj=>by
  have:o+j<cur.size:=by omega
  simp[World.cell?,hw,this]) (fun j hj=>by simp[World.frozen?,hw]) h1
 rw[e1] at e2
 simp only[Nat.add_zero,Result.ok.injEq,true_and] at e2
 exact e2.symm
theorem Kw {T' e':TypeId} {size:Nat} {t:Ty} {ys:List t.I} {vy:Value} (hk:P.underlying T'=some (.slice e')) (hs:size=t.size)
  (h:∃ X c,vy=.slice X ys.length c∧(0<ys.length→∃ g off cur T fr,X=some ⟨g,off,none⟩∧w.heap[g]? =some (.cells cur T fr)∧off+ys.length*t.size≤cur.size∧∀ u∈(cur.toList.drop off).take (ys.length*t.size),u.oneCell'=true)):
  ∃ news,Src P size T' vy ys.length news w∧(∀ g off cur T fr X c,vy=.slice X ys.length c→X=some ⟨g,off,none⟩→w.heap[g]? =some (.cells cur T fr)→0<ys.length→news=(cur.toList.drop off).take (ys.length*t.size)):=by
 subst hs
 obtain⟨X,c,rfl,h⟩:=h
 rcases Nat.eq_zero_or_pos ys.length with h0 |h0
 ·refine⟨[], ?_,fun _ _ _ _ _ _ _ _ _ _ hp=>by omega⟩
  rw[h0]
  cases X with
  |none=>exact Src.ofNil w hk c
  |some ad=>exact Src.ofSlice w hk ad 0 c [] (by simp) (fun j u hu=>by simp at hu) (fun u hu=>by simp at hu)
 ·obtain⟨g,off,cur,T,fr,rfl,hw,hb,h1⟩:=h h0
  refine⟨(cur.toList.drop off).take (ys.length*t.size),Src.ofSlice w hk ⟨g,off,none⟩ ys.length c _ (by have hc:cur.toList.length=cur.size:=Array.length_toList;rw[List.length_take,List.length_drop];omega) (fun j u hu=> ?_) h1, ?_⟩
  ·have hj:j<ys.length*t.size:=by
    have:=(List.getElem?_eq_some_iff.1 hu).1
    rw[List.length_take] at this
    omega
   rw[List.getElem?_take,if_pos hj,List.getElem?_drop] at hu
   rw[jr]
   simp only[World.cell?,hw]
   rw[←Array.getElem?_toList]
   exact hu
  ·intro g' ajY ajd T' fr' X' c' e1 e2 F' _
   injection e1 with e1
   subst e2
   injection e1 with e1
   injection e1 with e1 DD
   subst e1 DD
   rw[hw] at F'
   injection F' with F'
   injection F' with F'
   rw[F']
noncomputable def join (ru:Nat→Prop) (n:Nat) (DJ τ:Nat→Nat) (g:Nat):Nat:=open Classical in if ru g then n+DJ g else τ g
theorem MD {ru:Nat→Prop} {n:Nat} {DJ τ:Nat→Nat} {g:Nat} (h:ru g):join ru n DJ τ g=n+DJ g:=if_pos h
theorem GO {ru:Nat→Prop} {n:Nat} {DJ τ:Nat→Nat} {g:Nat} (h: ¬ru g):join ru n DJ τ g=τ g:=if_neg h
theorem DK (hT:cM P Θ=true) {T T' e ty:TypeId} {t:Ty} {tag:Option Nat} {me:Md} {xs ys:List t.I} {vx vy:Value} {yZ ru:Nat→Prop} {DJ:Nat→Nat} {news:List Value} {inf:TypeInfo} {z:Value}
  (hu:P.underlying T=some (.slice e)) (hi:P.info? e=some inf) (hz:inf.zero=some z) (iD:inf.size=t.size) (hby:inf.bytes≤32*t.size) (hzs:z.cells.size=t.size) (aa9:0<t.size)
  (hx:M w A H (.sl t) (.o e tag me) xs [vx] yZ []) (y5:Src P t.size T' vy ys.length news w)
  (hN:∀ (k:Nat) (hk:k<ys.length),M w A H t me ys[k] ((news.drop (k*t.size)).take t.size) (fun g=>ru g∧DJ g=k) [])
  (QW:∀ g,yZ g→ ¬ru g) (hxA:∀ g,yZ g→A g) (hlx:∀ g,yZ g→g<w.heap.size) (hlN:∀ g,ru g→g<w.heap.size) (DL:(xs.length+ys.length)*t.size≤4398046511104):
  ∃ v' w' cG,(Builtin.append_ #[T,T'] ty #[vx,vy]).run P w=.ok v' w'∧M w' (fun g=>A g∨w.heap.size≤g) H (.sl t) (.o e none me) (xs++ys) [v'] cG []∧
   (∀ g,g<w.heap.size→ ¬yZ g→w'.heap[g]? =w.heap[g]?)∧(∀ g,cG g→g<w'.heap.size∧(yZ g∨ru g∨w.heap.size≤g))∧w.heap.size≤w'.heap.size∧w'.os=w.os∧w'.tape=w.tape∧w'.output=w.output:=by
 have aje:xs.length+ys.length≤4398046511104:=Nat.le_trans (Nat.le_mul_of_pos_right _ aa9) DL
 have ajf:(xs.length+ys.length)*inf.bytes≤140737488355328:=by
  have:(xs.length+ys.length)*inf.bytes≤(xs.length+ys.length)*(32*t.size):=Nat.mul_le_mul_left _ hby
  have e2:(xs.length+ys.length)*(32*t.size)=32*((xs.length+ys.length)*t.size):=by rw[Nat.mul_left_comm]
  omega
 have ME:Src P inf.size T' vy ys.length news w:=by rw[iD];exact y5
 have WO:=y5.one
 have hnl:=y5.newsLen
 -- the grown row
 have grown:∀ (base:Option Addr) (c:Nat) (olds:List Value) (owo:Nat→Prop) (τ:Nat→Nat),vx=.slice base xs.length c→c<xs.length+ys.length→olds.length=xs.length*t.size→
   (Builtin.firstCells inf.size xs.length vx).run P w.drew=.ok olds.toArray w.drew→(∀ g,owo g→yZ g)→
   (∀ (k:Nat) (hk:k<xs.length),M w A H t me xs[k] ((olds.drop (k*t.size)).take t.size) (fun g=>owo g∧τ g=k) [])→
   ∃ v' w' cG,(Builtin.append_ #[T,T'] ty #[vx,vy]).run P w=.ok v' w'∧M w' (fun g=>A g∨w.heap.size≤g) H (.sl t) (.o e none me) (xs++ys) [v'] cG []∧
   (∀ g,g<w.heap.size→ ¬yZ g→w'.heap[g]? =w.heap[g]?)∧(∀ g,cG g→g<w'.heap.size∧(yZ g∨ru g∨w.heap.size≤g))∧w.heap.size≤w'.heap.size∧w'.os=w.os∧w'.tape=w.tape∧w'.output=w.output:=by
  intro base c olds owo τ hv hc hol aa' BM BG
  subst hv
  have cQ:=run_append_grow_src (P:=P) w T T' ty e inf z hu hi hz base xs.length c olds aa' vy ys.length news ME hc (by omega) (by
   have h1:=nextslicecap_le hc
   have h2:=Nat.mul_le_mul_right inf.bytes h1
   rw[Nat.mul_assoc] at h2
   omega)
  have hge:=grownCap_ge w (xs.length+ys.length) c e
  have hle:=grownCap_le_maxLen w (xs.length+ys.length) c e (by simp only[maxLen];omega)
  let pad:=Builtin.zeroCells z.cells (grownCap w (xs.length+ys.length) c e - (xs.length+ys.length))
  have jT:∀ g,g<w.heap.size→(w.drew.alloc (.cells ((olds++news).toArray++pad) e)).heap[g]? =w.heap[g]? :=fun g hg=>heap_alloc_old w.drew _ g hg
  refine⟨_,w.drew.alloc (.cells ((olds++news).toArray++pad) e),fun g=>owo g∨ru g∨g=w.heap.size,cQ, ?_,fun g hg _=>jT g hg,fun g hg=> ?_,by simp,rfl,rfl,rfl⟩
  ·simp only[M]
   refine .inr (.inr ⟨e,none,me,some ⟨w.heap.size,0,none⟩,grownCap w (xs.length+ys.length) c e,rfl,by rw[List.length_append],by rw[List.length_append];exact hge,fun h hh=>(by cases hh),.inr ⟨w.heap.size,(olds++news).toArray++pad,join ru xs.length DJ τ,rfl,.inr (.inr rfl),heap_alloc_new w.drew _, ?_,hle,fun j hj=> ?_⟩⟩)
   ·simp only[pad,Array.size_append,List.size_toArray,List.length_append,size_zeroCells,hzs,hol,hnl, ←Nat.add_mul]
    congr 1
    omega
   ·have cc:a6 w (w.drew.alloc (.cells ((olds++news).toArray++pad) e)) A (fun g=>A g∨w.heap.size≤g):=⟨fun g _ hg=>jT g hg,fun g hg hx=>hx.resolve_right (by omega)⟩
    rw[Array.toList_append,List.toList_toArray]
    rcases Nat.lt_or_ge j xs.length with PZ |PZ
    ·rw[List.getElem_append_left PZ,List.append_assoc,tK hol PZ]
     refine aN cc t (fun g hg hl=>jT g hl) (fun g hg hl=>⟨.inl hg.1,by omega, ?_⟩) (fun _ h=>by simp at h) (BG j PZ)
     rw[GO (QW g (BM g hg.1))]
     exact hg.2
    ·have hjy:j - xs.length<ys.length:=by rw[List.length_append] at hj;omega
     rw[List.getElem_append_right PZ]
     have e1:=CE (olds:=olds) (news:=news++pad.toList) (s:=t.size) (n:=xs.length) (j:=j - xs.length) hol
     rw[show xs.length+(j - xs.length)=j from by omega, ←List.append_assoc,tK hnl hjy] at e1
     rw[e1]
     refine aN cc t (fun g hg hl=>jT g hl) (fun g hg hl=>⟨.inr (.inl hg.1),by omega, ?_⟩) (fun _ h=>by simp at h) (hN (j - xs.length) hjy)
     rw[MD hg.1,hg.2]
     omega
  ·have:(w.drew.alloc (.cells ((olds++news).toArray++pad) e)).heap.size=w.heap.size+1:=by simp
   rcases hg with hg |hg |rfl
   ·exact⟨by have:=hlx g (BM g hg);omega,.inl (BM g hg)⟩
   ·exact⟨by have:=hlN g hg;omega,.inr (.inl hg)⟩
   ·exact⟨by omega,.inr (.inr (Nat.le_refl _))⟩
 -- nothing to append
 have nothing:∀ (base:Option Addr) (c:Nat),vx=.slice base xs.length c→xs.length≤c→ys.length=0→
   ∃ v' w' cG,(Builtin.append_ #[T,T'] ty #[vx,vy]).run P w=.ok v' w'∧M w' (fun g=>A g∨w.heap.size≤g) H (.sl t) (.o e none me) (xs++ys) [v'] cG []∧
   (∀ g,g<w.heap.size→ ¬yZ g→w'.heap[g]? =w.heap[g]?)∧(∀ g,cG g→g<w'.heap.size∧(yZ g∨ru g∨w.heap.size≤g))∧w.heap.size≤w'.heap.size∧w'.os=w.os∧w'.tape=w.tape∧w'.output=w.output:=by
  intro base c hv hle h0
  have hys:ys=[]:=List.eq_nil_of_length_eq_zero h0
  subst hys
  have hn0:news=[]:=List.eq_nil_of_length_eq_zero (by simpa using hnl)
  rw[hn0] at ME
  rw[hv] at hx ⊢
  have cQ:=run_append_nothing (P:=P) w T T' ty e inf hu hi base xs.length c hle vy ME
  refine⟨_,w,yZ,cQ, ?_,fun _ _ _=>rfl,fun g hg=>⟨hlx g hg,.inl hg⟩,Nat.le_refl _,rfl,rfl,rfl⟩
  rw[List.append_nil]
  have vO:M w A H (.sl t) (.o e none me) xs [.slice base xs.length c] yZ []:=by
   simp only[M] at hx ⊢
   rcases hx with⟨hn,_⟩ |⟨hk,_⟩ |⟨T1,ajg,me1,X,c1,e1,e2,h1,h2,h3⟩
   ·simp at hn
   ·simp[Md.bQ] at hk
   ·injection e1 with e1 DD y6
    subst e1 DD y6
    exact .inr (.inr ⟨e,none,me,X,c1,rfl,e2,h1,fun h hh=>(by cases hh),h3⟩)
  exact aN (w:=w) ⟨fun _ _ _=>rfl,fun g hg hx=>hx.resolve_right (by omega)⟩ (.sl t) (fun _ _ _=>rfl) (fun g hg _=>hg) (fun _ h=>h) vO
 have hx0:=hx
 simp only[M] at hx
 rcases hx with⟨hn,_⟩ |⟨hk,_⟩ |⟨T1,ajg,me1,X,c,e1,e2,hle,WI,hx⟩
 ·simp at hn
 ·simp[Md.bQ] at hk
 ·injection e1 with e1 DD y6
  subst e1 DD y6
  simp only[List.cons.injEq,and_true] at e2
  rcases Nat.eq_zero_or_pos ys.length with h0 |h0
  ·exact nothing X c e2 hle h0
  ·rcases hx with⟨hxs,hc⟩ |⟨g,cur,τ,rfl,oQ,hw,jS,hcm,BG⟩
   ·subst hxs hc
    refine grown X 0 [] (fun _=>False) (fun _=>0) e2 (by simpa using h0) (by simp) ?_ (fun _ h=>h.elim) (fun k hk=>by simp at hk)
    rw[e2]
    cases X with
    |none=>exact run_firstCells_none w.drew _ _ _ _
    |some ad=>exact run_firstCells_some w.drew _ _ ad _ _ [] (by simp) (fun j u hu=>by simp at hu)
   ·have hbx:xs.length*t.size≤cur.toList.length:=by
     have h1:cur.toList.length=cur.size:=Array.length_toList
     have h2:=Nat.mul_le_mul_right t.size hle
     omega
    have l9:cur.toList.length=cur.size:=Array.length_toList
    by_cases QX:xs.length+ys.length≤c
    ·-- room
     have po:xs.length*t.size+news.length≤cur.size:=by
      rw[hnl,jS, ←Nat.add_mul]
      exact Nat.mul_le_mul_right _ QX
     have cQ:=run_append_room_src (P:=P) w T T' ty e inf hu hi g 0 xs.length c vy ys.length news ME QX (fun j hj=>by
      have:xs.length*inf.size+j<cur.size:=by rw[iD];omega
      simp[World.cell?,hw,this]) (fun j hj=>by simp[World.frozen?,hw])
     rw[Nat.zero_add,iD,xA hw po WO] at cQ
     have jT:∀ k,k≠g→(w.setRow g (putCells cur.toList (xs.length*t.size) news).toArray).heap[k]? =w.heap[k]? :=fun k hk=>setRow_other w g k _ hk
     refine⟨_,w.setRow g (putCells cur.toList (xs.length*t.size) news).toArray,fun k=>yZ k∨ru k,by rw[e2];exact cQ, ?_,fun k _ hk=>jT k (fun e'=>hk (by rw[e'];exact oQ)),fun k hk=> ?_,by rw[setRow_size];exact Nat.le_refl _,rfl,rfl,rfl⟩
     ·simp only[M]
      refine .inr (.inr ⟨e,none,me,some ⟨g,0,none⟩,c,rfl,by rw[List.length_append],by rw[List.length_append];exact QX,fun h hh=>(by cases hh),.inr ⟨g,(putCells cur.toList (xs.length*t.size) news).toArray,join ru xs.length DJ τ,rfl,.inl oQ,setRow_heap w g cur _ e (0,0) hw, ?_,hcm,fun j hj=> ?_⟩⟩)
      ·rw[List.size_toArray,Dm _ _ _ (by omega),l9,jS]
      ·have cc:a6 w (w.setRow g (putCells cur.toList (xs.length*t.size) news).toArray) A (fun g=>A g∨w.heap.size≤g):=⟨fun k hk _=>jT k (fun e'=>hk (by rw[e'];exact hxA g oQ)),fun k hk hx=>hx.resolve_right (by omega)⟩
       rw[List.toList_toArray]
       have htl:(cur.toList.take (xs.length*t.size)).length=xs.length*t.size:=by rw[List.length_take];omega
       have Pb:putCells cur.toList (xs.length*t.size) news=cur.toList.take (xs.length*t.size)++(news++cur.toList.drop (xs.length*t.size+news.length)):=by unfold putCells;rw[List.append_assoc]
       rcases Nat.lt_or_ge j xs.length with PZ |PZ
       ·have fU:((putCells cur.toList (xs.length*t.size) news).drop (j*t.size)).take t.size=(cur.toList.drop (j*t.size)).take t.size:=by rw[Pb,tK htl PZ,tL PZ]
        rw[List.getElem_append_left PZ,fU]
        refine aN cc t (fun k hk hl=>jT k hk.2.1) (fun k hk hl=>⟨.inl hk.1,hk.2.1, ?_⟩) (fun _ h=>h) (BG j PZ)
        rw[GO (QW k hk.1)]
        exact hk.2.2
       ·have hjy:j - xs.length<ys.length:=by rw[List.length_append] at hj;omega
        rw[List.getElem_append_right PZ]
        have e1:=CE (olds:=cur.toList.take (xs.length*t.size)) (news:=news++cur.toList.drop (xs.length*t.size+news.length)) (s:=t.size) (n:=xs.length) (j:=j - xs.length) htl
        rw[show xs.length+(j - xs.length)=j from by omega,tK hnl hjy] at e1
        rw[←Pb] at e1
        rw[e1]
        have hgN:∀ k,ru k→k≠g:=fun k hk e'=>QW g oQ (by rw[←e'];exact hk)
        refine aN cc t (fun k hk hl=>jT k (hgN k hk.1)) (fun k hk hl=>⟨.inr hk.1,hgN k hk.1, ?_⟩) (fun _ h=>by simp at h) (hN (j - xs.length) hjy)
        rw[MD hk.1,hk.2]
        omega
     ·rw[setRow_size]
      rcases hk with hk |hk
      ·exact⟨hlx k hk,.inl hk⟩
      ·exact⟨hlN k hk,.inr (.inl hk)⟩
    ·refine grown (some ⟨g,0,none⟩) c (cur.toList.take (xs.length*t.size)) (fun k=>yZ k∧k≠g) τ e2 (by omega) (by rw[List.length_take];omega) ?_ (fun k hk=>hk.1) (fun k hk=> ?_)
     ·rw[e2,iD]
      refine run_firstCells_some w.drew _ _ ⟨g,0,none⟩ _ _ _ (by rw[List.length_take];omega) (fun j u hu=> ?_)
      rw[jr]
      have hj:j<xs.length*t.size:=by
       have:=(List.getElem?_eq_some_iff.1 hu).1
       rw[List.length_take] at this
       omega
      rw[List.getElem?_take,if_pos hj] at hu
      have F':w.drew.heap[g]? =some (.cells cur e (0,0)):=hw
      simp only[World.cell?,F',Nat.zero_add]
      rw[←Array.getElem?_toList]
      exact hu
     ·rw[tL hk]
      exact aN (a6.refl _ _) t (fun _ _ _=>rfl) (fun g' bX _=>⟨⟨bX.1,bX.2.1⟩,bX.2.2⟩) (fun _ h=>h) (BG k hk)
end Go.Pv
namespace Go.Pv
set_option linter.unusedVariables false
set_option linter.unusedSimpArgs false
variable {P:Program} {w w':World} {A A' Wr:Nat→Prop} {H:Nat→Value} {tm o7:Nat→Value} {S S' S1:St} {σ bK du:Nat→Option Nat} {w0:World} {W0 Z:Nat→Prop} {a:Act} {own:Nat→Prop} {v:Value} {Θ:cK} {dst:Option Nat}
def KS (w:World) (A:Nat→Prop) (t:Ty) (xs:List t.I) (cs:List Value):Prop:=
 ∃ X c,cs=[.slice X xs.length c]∧xs.length≤c∧(0<xs.length→∃ g off cur T fr,X=some ⟨g,off,none⟩∧w.heap[g]? =some (.cells cur T fr)∧off+xs.length*t.size≤cur.size∧∀ j (h:j<xs.length),K w A t xs[j] ((cur.toList.drop (off+j*t.size)).take t.size))
theorem aba {t:Ty} {m:Md} {xs:List t.I} {cs:List Value} {ow:Nat→Prop} (hk:m.B8.bQ=true) (h:M w A H (.sl t) m xs cs ow []):KS w A t xs cs:=by
 simp only[M] at h
 rcases h with⟨hn,_⟩ |⟨_,h⟩ |⟨T,tag,me,X,c,rfl,rfl,hc,ht,h⟩
 ·simp at hn
 ·simp only[K] at h
  obtain⟨X,c,rfl,hc,h⟩:=h
  refine⟨X,c,rfl,hc,fun hp=> ?_⟩
  obtain⟨g,off,cur,T,fr,h1,_,h2,h3,h4⟩:=h hp
  exact⟨g,off,cur,T,fr,h1,h2,h3,h4⟩
 ·refine⟨X,c,rfl,hc,fun hp=> ?_⟩
  rcases h with⟨rfl,_⟩ |⟨g,cur,τ,rfl,oQ,hw,iD,hm,h⟩
  ·simp at hp
  ·refine⟨g,0,cur,T,(0,0),rfl,hw, ?_,fun j hj=> ?_⟩
   ·have:=Nat.mul_le_mul_right t.size hc
    omega
   ·rw[Nat.zero_add]
    exact eU t hk (h j hj)
theorem abb {t:Ty} {xs:List t.I} {X:Option Addr} {c lo hi:Nat} (h:KS w A t xs [.slice X xs.length c]) (h1:lo≤hi) (h2:hi≤xs.length):
  KS w A t ((xs.take hi).drop lo) [.slice (if c=lo then X else X.map (·.add (lo*t.size))) (hi - lo) (c - lo)]:=by
 obtain⟨X',c',e,hc,h⟩:=h
 simp only[List.cons.injEq,Value.slice.injEq,and_true,true_and] at e
 obtain⟨rfl,rfl⟩:=e
 have hl:((xs.take hi).drop lo).length=hi - lo:=by rw[List.length_drop,List.length_take];omega
 refine⟨_,_,by rw[hl],by omega,fun hp=> ?_⟩
 rw[hl] at hp
 obtain⟨g,off,cur,T,fr,rfl,hw,ho,hj⟩:=h (by omega)
 have e1:(lo+(hi - lo))*t.size≤xs.length*t.size:=Nat.mul_le_mul_right _ (by omega)
 rw[Nat.add_mul] at e1
 refine⟨g,off+lo*t.size,cur,T,fr, ?_,hw,by rw[hl];omega,fun j JN=> ?_⟩
 rotate_left
 ·have nO:j<hi - lo:=by rw[←hl];exact JN
  have:=hj (lo+j) (by omega)
  rw[show((xs.take hi).drop lo)[j]=xs[lo+j]'(by omega) from by simp]
  rw[show off+lo*t.size+j*t.size=off+(lo+j)*t.size from by rw[Nat.add_mul];omega]
  exact this
 ·rw[if_neg (by omega)]
  simp only[Option.map_some,jr]
theorem GP (h:bd σ w0 W0 Z H S a w) {av:AV} {t:Ty} {m:Md} {ys:List t.I} (hh:Holds w (Av σ Z) H (bM a) S own av v) (e:S.qF av=some ⟨.sl t,m,ys⟩) (hk:m.B8.bQ=true):
  KS w (Av σ Z) t ys [v]:=by
 cases av with
 |v a ex=>
  cases ex with
  |cons _ _=>simp[St.qF] at e
  |nil=>
   simp only[St.qF,Option.some.injEq] at e
   subst e
   obtain⟨cs,h1,h2⟩:=hh
   have:cs=[v]:=by simpa[an,isAgg] using h1
   subst this
   exact aba hk h2
 |al t1 s p=>
  simp only[St.qF] at e
  obtain⟨r,bY,cs,hr,hc,hm⟩:=hh
  obtain⟨rfl,cG,k2,k3⟩:=cP h hr hc e
  have:cs=[v]:=by simpa[an,isAgg] using hm
  subst this
  exact aba hk k3
 |cut t1 s p lo hi=>
  simp only[St.qF] at e
  obtain⟨r,bY,t',X,n,c,hr,rfl,hc,Qj,BN,rfl⟩:=hh
  cases hp:S.place s p with
  |none=>rw[hp] at e;cases e
  |some b'=>
   obtain⟨ht,cG,k2,k3⟩:=cP h hr hc hp
   obtain⟨bt,bm,bx⟩:=b'
   simp only at ht
   subst ht
   rw[hp] at e
   simp only[Option.some.injEq] at e
   injection e with e1 e2 e3
   injection e1 with e1
   subst e1 e2
   simp only[heq_eq_eq] at e3
   subst e3
   have hK:=aba hk k3
   have hn:n=List.length bx:=by
    obtain⟨_,_,e,_⟩:=hK
    simp only[List.cons.injEq,Value.slice.injEq,and_true] at e
    exact e.2.1
   subst hn
   exact abb hK Qj BN
 |_=>simp[St.qF] at e
theorem y7 {s:Nat} {Q:Value→Prop} {l:List Value}:∀ (n:Nat),(∀ j,j<n→∀ u∈(l.drop (j*s)).take s,Q u)→∀ u∈l.take (n*s),Q u
 |0,_,u,hu=>by simp at hu
 |n+1,h,u,hu=>by
  rw[Nat.add_mul,Nat.one_mul,List.take_add] at hu
  rcases List.mem_append.1 hu with hu |hu
  ·exact y7 n (fun j hj=>h j (by omega)) u hu
  ·exact h n (by omega) u hu
theorem QY {T' e':TypeId} {t:Ty} {ys:List t.I} {vy:Value} (hk:P.underlying T'=some (.slice e')) (h:KS w A t ys [vy]):
  ∃ news,Src P t.size T' vy ys.length news w∧∀ (k:Nat) (hk:k<ys.length),K w A t ys[k] ((news.drop (k*t.size)).take t.size):=by
 obtain⟨X,c,e,hc,h⟩:=h
 simp only[List.cons.injEq,and_true] at e
 obtain⟨news,h1,h2⟩:=Kw (P:=P) (w:=w) (t:=t) (ys:=ys) (vy:=vy) hk rfl ⟨X,c,e,fun hp=>by
  obtain⟨g,off,cur,T,fr,rfl,hw,hb,hj⟩:=h hp
  refine⟨g,off,cur,T,fr,rfl,hw,hb,y7 _ fun j JN u hu=> ?_⟩
  rw[List.drop_drop] at hu
  exact(jF t (hj j JN)).2 u hu⟩
 refine⟨news,h1,fun k hk=> ?_⟩
 obtain⟨g,off,cur,T,fr,rfl,hw,hb,hj⟩:=h (by omega)
 rw[h2 g off cur T fr _ c e rfl hw (by omega),tL hk,List.drop_drop]
 exact hj k hk
theorem rZ (hT:cM P Θ=true) {T0:TypeId} {i:TI} (hi:Θ.find T0=some i) {t:Ty} (eQ:i.ty=.sl t) {o:Oper} {x y:Operand} {T':TypeId} {tag:Option Nat} {me:Md} {xs ys:List t.I} {yZ ru:Nat→Prop} {DJ:Nat→Nat} {news:List Value} {n:Nat}
  (ho:o.op=.call { callee:=.builtin .append,args:=#[x,y],argTypes:=#[T0,T'] })
  (h2:bd du w0 W0 Z H S1 a w) (hS1:S1.length=n) (hA:A=Av du Z)
  (hx:M w A H (.sl t) (.o i.e tag me) xs [a.eval x] yZ []) (y5:Src P t.size T' (a.eval y) ys.length news w)
  (hN:∀ (k:Nat) (hk:k<ys.length),M w A H t me ys[k] ((news.drop (k*t.size)).take t.size) (fun g=>ru g∧DJ g=k) [])
  (QW:∀ g,yZ g→ ¬ru g) (tJ:∀ g,yZ g∨ru g→∃ i,n≤i∧du g=some i) (DL:(xs.length+ys.length)*t.size≤4398046511104):
  BR P w0 W0 Z H (S1.put o.dst (.v ⟨.sl t,.o i.e none me,xs++ys⟩ [])) a o.dst w (execOp a.eval o):=by
 subst hA hS1
 obtain⟨_,hu,PX⟩:=cO hT hi
 obtain⟨u1,u2,u3⟩:=jI hu eQ
 rw[PX] at u1
 obtain⟨i2,lP,ht2⟩:=dz u2
 obtain⟨⟨sm,inf,z,k1,k2,kb,_,_,k3,k4⟩,_,hte⟩:=cO hT lP
 rw[hte] at k1
 rw[ht2] at k2 k4 kb
 have cI:∀ g,yZ g∨ru g→g<w.heap.size:=fun g hg=>by
  obtain⟨i,_,hi⟩:=tJ g hg
  exact h2.lt g i hi
 have hz1:z.cells.size=t.size:=by
  unfold an at k4
  split at k4
  ·rw[k4,Value.cells,List.size_toArray,lQ]
  ·rename_i Kc
   have hl:=lQ t
   rw[k4] at hl
   have hv:∀ (t:Ty),∀ u∈zc t,u.oneCell'=true:=by
    intro t
    induction t with
    |pair a b iha ihb=>intro u hu;simp only[zc,List.mem_append] at hu;rcases hu with hu |hu;exact iha u hu;exact ihb u hu
    |arr n t ih=>intro u hu;simp only[zc,List.mem_flatten] at hu;obtain⟨c,hc,hu⟩:=hu;rw[List.eq_of_mem_replicate hc] at hu;exact ih u hu
    |unit=>intro u hu;simp[zc] at hu
    |_=>intro u hu;simp only[zc,List.mem_singleton] at hu;subst hu;rfl
   have h1:=hv t z (by rw[k4];simp)
   have:z.cells=#[z]:=by cases z<;>first |rfl |simp[Value.oneCell'] at h1
   rw[this]
   simpa using hl
 obtain⟨v',w',cG,r1,r2,r3,r4,r5,r6,r7,r8⟩:=DK (ty:=o.type) hT u1 k1 k3 k2 kb hz1 u3 hx y5 hN QW (fun g hg=>by
  obtain⟨i,_,hi⟩:=tJ g (.inl hg)
  exact .inl ⟨i,hi⟩) (fun g hg=>cI g (.inl hg)) (fun g hg=>cI g (.inr hg)) DL
 refine⟨w',v',.inl ?_,_,h2.Yf (b:=⟨.sl t,.o i.e none me,xs++ys⟩) (cs:=[v']) (ow:=cG) (A':=fun g=>Av du Z g∨w.heap.size≤g) r5 (fun g hg hn=>r3 g hg (fun hx=> ?_)) ?_ (fun g hg=> ?_) (fun g hg hx=> ?_) (by simp[an,isAgg]) r2⟩
 ·simp[execOp,ho,resolve,invoke,builtin,r1]
 ·obtain⟨i,hi1,lP⟩:=tJ g (.inl hx)
  exact hn i hi1 lP
 ·refine⟨by rw[r6];exact h2.fr.os,by rw[r7];exact h2.fr.tape,by rw[r8];exact h2.fr.output,Nat.le_trans h2.fr.size r5,fun g hg hn=> ?_⟩
  rw[r3 g (by have:=h2.fr.size;omega) (fun hx=> ?_)]
  ·exact h2.fr.block g hg hn
  ·obtain⟨i,_,hi⟩:=tJ g (.inl hx)
   rcases h2.new g i hi with h1 |h1
   ·omega
   ·exact hn h1
 ·obtain⟨q1,q2⟩:=r4 g hg
  refine⟨q1, ?_⟩
  rcases q2 with q2 |q2 |q2
  ·exact .inl (tJ g (.inl q2))
  ·exact .inl (tJ g (.inr q2))
  ·exact .inr q2
 ·rcases hx with hx |hx
  ·exact .inl hx
  ·rcases(r4 g hx).2 with q2 |q2 |q2
   ·obtain⟨i,_,hi⟩:=tJ g (.inl q2)
    exact .inl (.inl ⟨i,hi⟩)
   ·obtain⟨i,_,hi⟩:=tJ g (.inr q2)
    exact .inl (.inl ⟨i,hi⟩)
   ·exact .inr q2
theorem Pd (hT:cM P Θ=true) (h:bd σ w0 W0 Z H S a w) {o:Oper} {as:Array Operand} {ts:Array TypeId} (ho:o.op=.call { callee:=.builtin .append,args:=as,argTypes:=ts }) (e:b7 Θ S o.dst ts.toList as.toList=some (true,S')):BR P w0 W0 Z H S' a o.dst w (execOp a.eval o):=by
 obtain⟨as⟩:=as
 obtain⟨ts⟩:=ts
 simp only at e
 unfold b7 at e
 split at e
 case h_2=>cases e
 rename_i x y T T'
 split at e
 case h_2=>cases e
 rename_i t e0 tag me xs S1 i hb hi
 unfold St.take at hb
 split at hb
 case h_2=>cases hb
 rename_i av dh
 obtain⟨bK,cs,ow,h1,hm,hM,hk,hn⟩:=ef h dh hb
 cases hc:(decide (i.ty=.sl t)&&Nat.beq i.e e0&&Θ.is T' (.sl t)) with
 |false=>rw[hc] at e;cases e
 |true=>
 rw[hc] at e
 simp only[cond_true] at e
 simp only[Bool.and_eq_true,decide_eq_true_eq] at hc
 obtain⟨⟨eQ,hee⟩,WC⟩:=hc
 have hee:=Nat.eq_of_beq_eq_true hee
 subst hee
 have jS:cs=[a.eval x]:=by simpa[an,isAgg] using hm
 subst jS
 obtain⟨i',Gg,QT⟩:=dz WC
 obtain⟨_,rq,hT1⟩:=cO hT Gg
 obtain⟨u1,_,_⟩:=jI rq QT
 rw[hT1] at u1
 have ajh:a6 w w (Av σ Z) (Av bK Z):=⟨fun _ _ _=>rfl,fun g _ hg=>hk.Av.1 hg⟩
 cases Wb:me.bQ with
 |true=>
  rw[Wb] at e
  simp only[cond_true] at e
  split at e
  case h_2=>cases e
  rename_i t' m' ys hy
  cases QZ:m'.B8.bQ with
  |false=>rw[QZ] at e;cases e
  |true=>
  rw[QZ] at e
  simp only[cond_true] at e
  split at e
  case isFalse=>cases e
  rename_i htt
  subst htt
  simp only[Option.some.injEq,Prod.mk.injEq,decide_eq_true_eq] at e
  obtain⟨DL,rfl⟩:=e
  unfold St.rd at hy
  split at hy
  case h_2=>cases hy
  rename_i Yg yV
  have hKS:=GP h1 (bC h1 yV) hy QZ
  obtain⟨news,y5,BG⟩:=QY (P:=P) u1 hKS
  refine rZ (n:=S1.length) (A:=Av bK Z) (yZ:=ow) (ru:=fun _=>False) (DJ:=fun _=>0) hT hi eQ ho h1 rfl rfl (aN ajh _ (fun _ _ _=>rfl) (fun _ h _=>h) (fun _ h=>h) hM) y5 (fun k fA=>ng Wb (BG k fA)) (fun _ _ h=>h) (fun g hg=> ?_) DL
  rw[hn]
  exact hk.now g (hg.resolve_right id)
 |false=>
  rw[Wb] at e
  simp only[cond_false] at e
  split at e
  case h_2=>cases e
  rename_i t' m' ys S2 hy
  split at e
  case isFalse=>cases e
  rename_i htt
  subst htt
  split at e
  case isFalse=>cases e
  rename_i QZ
  simp only[Option.some.injEq,Prod.mk.injEq,decide_eq_true_eq] at e
  obtain⟨DL,rfl⟩:=e
  unfold St.take at hy
  split at hy
  case h_2=>cases hy
  rename_i Yg yV
  obtain⟨du,QJ,nu,h2,PW,hM2,Cz,hn2⟩:=ef h1 yV hy
  rw[hn] at Cz hn2
  have jS:QJ=[a.eval y]:=by simpa[an,isAgg] using PW
  subst jS
  have abc:a6 w w (Av bK Z) (Av du Z):=⟨fun _ _ _=>rfl,fun g _ hg=>Cz.Av.1 hg⟩
  have agH:M w (Av du Z) H (.sl t') m' ys [a.eval y] nu []:=aN abc _ (fun _ _ _=>rfl) (fun _ h _=>h) (fun _ h=>h) hM2
  have hM':M w (Av du Z) H (.sl t') (.o i.e tag me) xs [a.eval x] ow []:=aN ⟨fun _ _ _=>rfl,fun g _ hg=>hk.Av.1 (Cz.Av.1 hg)⟩ _ (fun _ _ _=>rfl) (fun _ h _=>h) (fun _ h=>h) hM
  have tJ:∀ g,ow g∨nu g→∃ i,S.length≤i∧du g=some i:=fun g hg=>(hk.trans Cz).now g hg
  simp only[M] at agH
  rcases agH with⟨hn0,_⟩ |⟨hK,_⟩ |⟨T2,Pa,me2,X,c,rfl,e2,hle,WI,BG⟩
  ·simp at hn0
  ·rw[←QZ] at Wb
   rw[nT hK] at Wb
   cases Wb
  ·simp only[Md.B8] at QZ
   subst QZ
   simp only[List.cons.injEq,and_true] at e2
   have y5:∃ (ru:Nat→Prop) (DJ:Nat→Nat) (news:List Value),Src P t'.size T' (a.eval y) ys.length news w∧(∀ g,ru g→nu g)∧
     ∀ (k:Nat) (hk:k<ys.length),M w (Av du Z) H t' me2 ys[k] ((news.drop (k*t'.size)).take t'.size) (fun g=>ru g∧DJ g=k) []:=by
    rcases BG with⟨hys,_⟩ |⟨g,cur,τ,hX,oQ,hw,iD,agG,BG⟩
    ·subst hys
     obtain⟨news,s1,_⟩:=Kw (P:=P) (w:=w) (t:=t') (ys:=([]:List t'.I)) (vy:=a.eval y) u1 rfl ⟨X,c,e2,fun hp=>by simp at hp⟩
     exact⟨fun _=>False,fun _=>0,news,s1,fun _ h=>h.elim,fun k hk=>by simp at hk⟩
    ·subst hX
     have l9:cur.toList.length=cur.size:=Array.length_toList
     have hb:=Nat.mul_le_mul_right t'.size hle
     obtain⟨news,s1,s2⟩:=Kw (P:=P) (w:=w) (t:=t') (ys:=ys) (vy:=a.eval y) u1 rfl ⟨some ⟨g,0,none⟩,c,e2,fun hp=>⟨g,0,cur,T2,(0,0),rfl,hw,by omega,y7 _ fun j hj u hu=>by
      rw[List.drop_zero] at hu
      exact(eS t' (BG j hj)).2 u hu⟩⟩
     refine⟨fun g'=>nu g'∧g'≠g,τ,news,s1,fun _ h=>h.1,fun k hk=> ?_⟩
     rw[s2 g 0 cur T2 (0,0) _ c e2 rfl hw (by omega),tL hk,List.drop_zero]
     exact aN (a6.refl _ _) t' (fun _ _ _=>rfl) (fun g' bX _=>⟨⟨bX.1,bX.2.1⟩,bX.2.2⟩) (fun _ h=>h) (BG k hk)
   obtain⟨ru,DJ,news,s1,s2,s3⟩:=y5
   exact rZ (n:=S.length) (A:=Av du Z) (yZ:=ow) (ru:=ru) (DJ:=DJ) hT hi eQ ho h2 hn2 rfl hM' s1 s3 (fun g hg o6=>hk.apart Cz hg (s2 g o6)) (fun g hg=>tJ g (hg.imp id (s2 g))) DL
end Go.Pv
namespace Go.Pv
set_option linter.unusedVariables false
set_option linter.unusedSimpArgs false
variable {P:Program} {w w':World} {A A' Wr:Nat→Prop} {H:Nat→Value} {tm o7:Nat→Value} {S S' S1:St} {σ bK:Nat→Option Nat} {w0:World} {W0 Z:Nat→Prop} {a:Act} {own:Nat→Prop} {v:Value} {Θ:cK} {dst:Option Nat}
theorem y8 {p:Path} {ex:List Path} (h:∀ q∈ex,nP q p=false):s6 p ex=[]:=by
 have key:∀ (p r:Path),nP (p++r) p=true:=by
  intro p
  induction p with
  |nil=>intro r;cases r<;>rfl
  |cons a p ih=>intro r;cases a<;>simp[nP,ih]
 apply List.eq_nil_iff_forall_not_mem.2
 intro q hq
 have:=h _ (yi.1 hq)
 rw[key] at this
 cases this
theorem pL (h:bd σ w0 W0 Z H S a w) {vv:Value} {t:Ty} {s:Nat} {p:Path} (hpc:p≠[]) {r:TV} {ex:List Path} {b:TV} (hh:Holds w (Av σ Z) H (bM a) S own (.al t s p) vv) (hs:S.at s=.v r ex) (hg:a8 p r.t r.m r.x=some b) (hk:b.m.bQ=false) (l9:∀ q∈ex,nP q p=false):
  ∃ bK cs ow,bd bK w0 W0 Z H (((S.weaken s).cover s p).set s (.v r (ex++[p]))) a w∧an b.t vv cs∧M w (Av bK Z) H b.t b.m b.x cs ow []∧fC σ bK S.length ow∧(((S.weaken s).cover s p).set s (.v r (ex++[p]))).length=S.length:=by
 obtain⟨r0,bY,cs,hr,hc,hm⟩:=hh
 obtain⟨Ku,b2,cL,ow0,j1,j2,j3,j4,hM,j5,j6,j7⟩:=fm h hr
 rw[hs] at j1
 injection j1 with j1 j1'
 subst j1 j1'
 have j1:=hs
 rw[hg] at j3
 injection j3 with j3
 subst j3
 have j3:=hg
 obtain⟨QJ,cG,k1,k2,k3,k4⟩:=CA p hM j2 hr.val j3 hk
 rw[hc] at k1
 injection k1 with k1
 subst k1
 rw[y8 l9] at k3
 -- the ownership without what is taken
 have QK:s<S.length:=dQ (by rw[j1];exact fun e=>by cases e)
 let bK:Nat→Option Nat:=fun g=>open Classical in if cG g then some S.length else σ g
 have yR:∀ g i,bK g=some i→∃ k,σ g=some k:=by
  intro g i hg
  simp only[bK] at hg
  split at hg
  ·exact⟨s,k2 g (by assumption)⟩
  ·exact⟨i,hg⟩
 have yS:∀ g i,σ g=some i→ ¬cG g→bK g=some i:=by
  intro g i hg hn
  simp only[bK,if_neg hn,hg]
 have cc:a6 w w (Av σ Z) (Av bK Z):=⟨fun _ _ _=>rfl,fun g _ hg=>by
  rcases hg with⟨i,hg⟩ |hg
  ·exact .inl (yR g i hg)
  ·exact .inr hg⟩
 have QL:fC σ bK S.length cG:=by
  refine⟨fun g hg=>⟨s,QK,k2 g hg⟩,fun g hg=>⟨_,Nat.le_refl _,by simp only[bK,if_pos hg]⟩,fun g i hg hi=> ?_,fun g=>⟨fun⟨i,hg⟩=>yR g i hg,fun⟨i,hg⟩=> ?_⟩,fun g i hg hi=>yS g i hg (fun hx=> ?_)⟩
  ·simp only[bK] at hg
   split at hg
   ·injection hg with hg;omega
   ·exact hg
  ·simp only[bK]
   split
   ·exact⟨_,rfl⟩
   ·exact⟨i,hg⟩
  ·have:=k2 g hx
   rw[hg] at this
   injection this with this
   omega
 refine⟨bK,cs,cG, ?_,by rw[j4];exact hm,aN cc _ (fun _ _ _=>rfl) (fun _ h _=>h) (fun _ h=>h) k3,QL,by simp[St.weaken,St.cover]⟩
 have hlen:((S.weaken s).cover s p).length=S.length:=by simp[St.weaken,St.cover]
 have BH:s<S.length:=by
  rcases Nat.lt_or_ge s S.length with hl |hl
  ·exact hl
  ·unfold St.at at j1
   rw[List.getD_eq_getElem?_getD,List.getElem?_eq_none hl] at j1
   cases j1
 have u7:St.at (((S.weaken s).cover s p).set s (.v r (ex++[p]))) s=.v r (ex++[p]):=by rw[cr,if_pos ⟨rfl,by rw[hlen];exact BH⟩]
 have xx:∀ i,i≠s→St.at (((S.weaken s).cover s p).set s (.v r (ex++[p]))) i=(match (bif (S.at i).eG s then AV.dead else S.at i) with
   | .ad t s' q=>bif Nat.beq s' s&&under p q then .dead else .ad t s' q
   |a=>a):=by
  intro i hi
  rw[cr,if_neg (fun e=>hi e.1),yQ,iJ]
  try (cases (bif AV.eG s (S.at i) then AV.dead else S.at i)<;>rfl)
 refine⟨by simp only[List.length_set,hlen];exact h.len,h.defers,h.fr,fun g i hg=>(yR g i hg).elim fun k hk=>h.new g k hk,fun g i hg=>(yR g i hg).elim fun k hk=>h.lt g k hk,fun g hg=>⟨?_,(h.old g hg).2⟩,fun i=> ?_⟩
 ·simp only[bK]
  split
  ·rename_i hx
   have:=k2 g hx
   rw[(h.old g hg).1] at this
   cases this
  ·exact(h.old g hg).1
 ·by_cases QM:i=s
  ·subst QM
   rw[u7]
   exact⟨bY,hr.J5,aN cc _ (fun _ _ _=>rfl) (fun g hg _=>yS g _ hg.1 hg.2) (fun _ h=>h) k4⟩
  ·rw[xx i QM]
   cases qH:(S.at i).eG s with
   |true=>trivial
   |false=>
    simp only[cond_false]
    have hi:=h.holds i
    have base:Holds w (Av bK Z) H (bM a) S (fun g=>bK g=some i) (S.at i) (bM a i):=
     hi.kept cc (fun g hg _=>⟨rfl,yS g i hg (fun hx=>QM (by have:=k2 g hx;rw[hg] at this;injection this))⟩) (fun s' _=>⟨fun _ _ h=>h,rfl,_,h.holds s',fun _ _ _=>rfl⟩)
    have WJ:∀ j r' xL,j≠s→S.at j=.v r' xL→St.at (((S.weaken s).cover s p).set s (.v r (ex++[p]))) j=.v r' xL:=by
     intro j r' xL hj hv
     rw[xx j hj,hv]
     simp[AV.eG]
    cases iC:S.at i with
    |v b3 ex3=>
     rw[iC] at base
     obtain⟨c3,l1,l2⟩:=base
     exact⟨c3,l1,l2⟩
    |qZ l=>
     rw[iC] at base
     exact base
    |ad t' s' q=>
     rw[iC] at base qH
     simp only
     cases aa0:(Nat.beq s' s&&under p q) with
     |true=>trivial
     |false=>
      simp only[cond_false]
      refine fJ j1 WJ u7 qH (fun t2 q2 e2=> ?_) base (fun _ _ e=>by cases e) (fun _ e=>by cases e)
      injection e2 with _ e3 e4
      subst e3 e4
      simpa using aa0
    |dead=>trivial
    |undef=>rw[iC] at base;exact base
    |al t' s' q=>
     rw[iC] at base qH
     exact fJ j1 WJ u7 qH (fun t2 q2 e2=>by cases e2) base (fun _ _ e=>by cases e) (fun _ e=>by cases e)
    |cut t' s' q lo Gg=>
     rw[iC] at base qH
     exact fJ j1 WJ u7 qH (fun t2 q2 e2=>by cases e2) base (fun _ _ e=>by cases e) (fun _ e=>by cases e)
    |nc f cq=>
     rw[iC] at base qH
     exact fJ j1 WJ u7 qH (fun t2 q2 e2=>by cases e2) base (fun _ _ e=>by cases e) (fun _ e=>by cases e)
theorem Kx (h:bd σ w0 W0 Z H S a w) {x:Operand} {t:Ty} {s:Nat} {p:Path} (hpc:p≠[]) {r:TV} {ex:List Path} {b:TV} (hh:Holds w (Av σ Z) H (bM a) S own (.al t s p) (a.eval x)) (hs:S.at s=.v r ex) (hg:a8 p r.t r.m r.x=some b) (hk:b.m.bQ=false) (l9:∀ q∈ex,nP q p=false):
  ∃ bK cs ow,bd bK w0 W0 Z H (((S.weaken s).cover s p).set s (.v r (ex++[p]))) a w∧an b.t (a.eval x) cs∧M w (Av bK Z) H b.t b.m b.x cs ow []∧fC σ bK S.length ow∧(((S.weaken s).cover s p).set s (.v r (ex++[p]))).length=S.length:=pL h hpc hh hs hg hk l9
theorem Ky (hT:cM P Θ=true) (h:bd σ w0 W0 Z H S a w) {o:Oper} {as:Array Operand} {ts:Array TypeId} (ho:o.op=.call { callee:=.builtin .append,args:=as,argTypes:=ts }) (e:fk Θ S o.dst ts.toList as.toList=some (true,S')):BR P w0 W0 Z H S' a o.dst w (execOp a.eval o):=by
 obtain⟨as⟩:=as
 obtain⟨ts⟩:=ts
 simp only at e
 unfold fk at e
 split at e
 case h_2=>cases e
 rename_i x y T T'
 split at e
 case h_2=>cases e
 rename_i tt s st pp dh
 split at e
 case h_2=>cases e
 rename_i r ex hs
 split at e
 case h_2=>cases e
 rename_i t e0 tag me xs i hg hi
 cases hc:(decide (i.ty=.sl t)&&Nat.beq i.e e0&&Θ.is T' (.sl t)&&me.bQ) with
 |false=>rw[hc] at e;cases e
 |true=>
 rw[hc] at e
 simp only[cond_true] at e
 simp only[Bool.and_eq_true,decide_eq_true_eq] at hc
 obtain⟨⟨⟨eQ,hee⟩,WC⟩,Wb⟩:=hc
 have hee:=Nat.eq_of_beq_eq_true hee
 subst hee
 split at e
 case h_2=>cases e
 rename_i t' m' ys hy
 cases QZ:m'.B8.bQ with
 |false=>rw[QZ] at e;cases e
 |true=>
 rw[QZ] at e
 simp only[cond_true] at e
 split at e
 case isFalse=>cases e
 rename_i htt
 subst htt
 simp only[Option.some.injEq,Prod.mk.injEq,Bool.and_eq_true,decide_eq_true_eq] at e
 obtain⟨⟨l9,DL⟩,rfl⟩:=e
 obtain⟨bK,cs,ow,h1,hm,hM,hk,hn⟩:=Kx (x:=x) h (by simp) (bC h dh) hs hg (by simp[Md.bQ]) (fun q hq=>by simpa using List.all_eq_true.1 l9 q hq)
 have jS:cs=[a.eval x]:=by simpa[an,isAgg] using hm
 subst jS
 obtain⟨i',Gg,QT⟩:=dz WC
 obtain⟨_,rq,hT1⟩:=cO hT Gg
 obtain⟨u1,_,_⟩:=jI rq QT
 rw[hT1] at u1
 unfold St.rd at hy
 split at hy
 case h_2=>cases hy
 rename_i Yg yV
 have hKS:=GP h1 (bC h1 yV) hy QZ
 obtain⟨news,y5,BG⟩:=QY (P:=P) u1 hKS
 refine rZ (n:=S.length) (A:=Av bK Z) (yZ:=ow) (ru:=fun _=>False) (DJ:=fun _=>0) hT hi eQ ho h1 hn rfl hM y5 (fun k fA=>ng Wb (BG k fA)) (fun _ _ h=>h) (fun g hg=> ?_) DL
 exact hk.now g (hg.resolve_right id)
end Go.Pv
namespace Go.Pv
set_option linter.unusedVariables false
set_option linter.unusedSimpArgs false
variable {P:Program} {w w':World} {A A' Wr:Nat→Prop} {H:Nat→Value} {tm o7:Nat→Value} {S S' S1:St} {σ bK du:Nat→Option Nat} {w0:World} {W0 Z:Nat→Prop} {a:Act} {own:Nat→Prop} {v:Value} {Θ:cK} {dst:Option Nat}
theorem bd.setAt (h:bd σ w0 W0 Z H S a w) {i:Nat} {av:AV} (q9:∀ j,j≠i→(S.at j).refs i=false) (hv:Holds w (Av σ Z) H (bM a) (S.set i av) (fun g=>σ g=some i) av (bM a i)):
  bd σ w0 W0 Z H (S.set i av) a w:=by
 refine⟨by rw[List.length_set];exact h.len,h.defers,h.fr,h.new,h.lt,h.old,fun j=> ?_⟩
 rw[cr]
 by_cases hj:j=i∧i<S.length
 ·rw[if_pos hj,hj.1]
  exact hv
 ·rw[if_neg hj]
  by_cases kd:j=i
  ·have:S.at j=.dead:=Classical.byContradiction fun hx=>hj ⟨kd,by rw[←kd];exact dQ hx⟩
   rw[this]
   trivial
  ·refine(h.holds j).kept (a6.refl _ _) (fun g hg _=>⟨rfl,hg⟩) (fun s hs=> ?_)
   have hsi:s≠i:=fun e=>by subst e;rw[q9 j kd] at hs;cases hs
   exact⟨fun r ex hr=>by rw[cr,if_neg (fun e=>hsi e.1)];exact hr,rfl,_,h.holds s,fun _ _ _=>rfl⟩
theorem bd.part (h:bd σ w0 W0 Z H S a w) {i:Nat} (hi:∀ r ex,S.at i≠ .v r ex) (hl:i<S.length) {Q:Nat→Prop} {av:AV} (hv:Holds w (Av σ Z) H (bM a) (S.set i av) (fun g=>σ g=some i∧ ¬Q g) av (bM a i)):
  ∃ bK,bd bK w0 W0 Z H (S.set i av) a w∧fC σ bK S.length (fun g=>σ g=some i∧Q g):=by
 let bK:Nat→Option Nat:=fun g=>open Classical in if σ g=some i∧Q g then some S.length else σ g
 have hs:∀ g j,bK g=some j→∃ k,σ g=some k:=fun g j hg=>by
  simp only[bK] at hg
  split at hg
  ·rename_i hx;exact⟨i,hx.1⟩
  ·exact⟨j,hg⟩
 have mc:∀ g j,σ g=some j→ ¬(σ g=some i∧Q g)→bK g=some j:=fun g j hg hn=>by simp only[bK,if_neg hn,hg]
 have cc:a6 w w (Av σ Z) (Av bK Z):=⟨fun _ _ _=>rfl,fun g _ hg=>by
  rcases hg with⟨j,hg⟩ |hg
  ·exact .inl (hs g j hg)
  ·exact .inr hg⟩
 refine⟨bK,⟨by rw[List.length_set];exact h.len,h.defers,h.fr,fun g j hg=>(hs g j hg).elim fun k hk=>h.new g k hk,fun g j hg=>(hs g j hg).elim fun k hk=>h.lt g k hk,fun g hg=>⟨?_,(h.old g hg).2⟩,fun j=> ?_⟩, ?_⟩
 ·simp only[bK]
  rw[if_neg (fun hx=>by rw[(h.old g hg).1] at hx;cases hx.1)]
  exact(h.old g hg).1
 ·rw[cr]
  by_cases hj:j=i
  ·rw[if_pos ⟨hj,hl⟩,hj]
   exact hv.kept cc (fun g hg _=>⟨rfl,mc g i hg.1 (fun hx=>hg.2 hx.2)⟩) (fun s _=>⟨fun _ _ h=>h,rfl,by
    by_cases hsi:s=i
    ·subst hsi
     rw[cr,if_pos ⟨rfl,hl⟩]
     exact⟨_,hv,fun _ _ _=>rfl⟩
    ·rw[cr,if_neg (fun e=>hsi e.1)]
     refine⟨_,(h.holds s).kept (a6.refl _ _) (fun g hg _=>⟨rfl,hg⟩) (fun s1 Wd=>⟨fun r ex hr=> ?_,rfl,_,h.holds s1,fun _ _ _=>rfl⟩),fun _ _ _=>rfl⟩
     by_cases agI:s1=i
     ·subst agI;exact absurd hr (hi r ex)
     ·rw[cr,if_neg (fun e=>agI e.1)];exact hr⟩)
  ·rw[if_neg (fun e=>hj e.1)]
   refine(h.holds j).kept cc (fun g hg _=>⟨rfl,mc g j hg (fun hx=>hj (by rw[hx.1] at hg;injection hg with hg;exact hg.symm))⟩) (fun s Wd=>⟨fun r ex hr=> ?_,rfl,_,h.holds s,fun _ _ _=>rfl⟩)
   by_cases hsi:s=i
   ·subst hsi;exact absurd hr (hi r ex)
   ·rw[cr,if_neg (fun e=>hsi e.1)];exact hr
 ·refine⟨fun g hg=>⟨i,hl,hg.1⟩,fun g hg=>⟨_,Nat.le_refl _,by simp only[bK,if_pos hg]⟩,fun g j hg hj=> ?_,fun g=>⟨fun⟨j,hg⟩=>hs g j hg,fun⟨j,hg⟩=> ?_⟩,fun g j hg hj=>mc g j hg (fun hx=> ?_)⟩
  ·simp only[bK] at hg
   split at hg
   ·injection hg with hg;omega
   ·exact hg
  ·simp only[bK]
   split
   ·exact⟨_,rfl⟩
   ·exact⟨j,hg⟩
  ·rw[hx.1] at hg
   injection hg with hg
   omega
theorem y9 (h:bd σ w0 W0 Z H S a w) {o:Oper} {x:Operand} {j:Nat} (ho:o.op=.extract x j) (e:fj S o.dst x j=some (true,S')):jR P w0 W0 Z H S' a o.dst w (execOp a.eval o):=by
 unfold fj at e
 split at e
 case h_2=>cases e
 rename_i i
 split at e
 case h_2=>cases e
 rename_i l hl
 split at e
 case h_2=>cases e
 rename_i b hb
 have hh:=h.holds i
 rw[hl] at hh
 obtain⟨vs,τ,hv,hlen,BG⟩:=hh
 have hbj:l[j]? =some (some b):=by
  rw[List.getD_eq_getElem?_getD] at hb
  cases hq:l[j]? with
  |none=>rw[hq] at hb;cases hb
  |some q=>rw[hq] at hb;simp only[Option.getD_some] at hb;rw[hb]
 obtain⟨u,cs,hu,hm,hM⟩:=BG j b hbj
 have cQ:∀ w2,(execOp a.eval o).run P w2=.ok (.value u) w2:=fun w2=>by
  have:a.eval (.tmp i)=.tuple vs.toArray:=hv
  simp[execOp,ho,this,Instr.extract,hu]
 cases hk:b.m.bQ with
 |true=>
  rw[hk] at e
  simp only[cond_true,Option.some.injEq,Prod.mk.injEq,true_and] at e
  subst e
  exact b8 h cQ ⟨cs,hm,ng hk (eU _ hk hM)⟩
 |false=>
  rw[hk] at e
  simp only[cond_false] at e
  split at e
  case h_2=>cases e
  rename_i d hd
  cases Kg:Nat.beq d i with
  |true=>rw[Kg] at e;cases e
  |false=>
  rw[Kg] at e
  simp only[cond_false,Option.some.injEq,Prod.mk.injEq,true_and] at e
  subst e
  rw[←hd]
  have BL:i<S.length:=dQ (by rw[hl];exact fun e=>by cases e)
  obtain⟨bK,h1,JQ⟩:=h.part (i:=i) (fun r ex=>by rw[hl];exact fun e=>by cases e) BL (Q:=fun g=>τ g=j) (av:=.qZ (l.set j none)) ⟨vs,τ,hv,by rw[List.length_set];exact hlen,fun k b' fA=>by
   rw[List.getElem?_set] at fA
   split at fA
   ·split at fA<;>cases fA
   ·rename_i DM
    obtain⟨u',cL,c1,c2,c3⟩:=BG k b' fA
    exact⟨u',cL,c1,c2,aN (a6.refl _ _) _ (fun _ _ _=>rfl) (fun g hg _=>⟨⟨hg.1,fun hx=>DM (by rw[←hx,hg.2])⟩,hg.2⟩) (fun _ h=>h) c3⟩⟩
  exact gR.still (v:=u) cQ (nw (n:=S.length) h1 JQ (List.length_set) (fun w2 _=>cQ w2) hm (aN (a6.refl _ _) _ (fun _ _ _=>rfl) (fun g hg _=>hg) (fun _ h=>h) hM))
theorem Q0 (S:St) (d:Nat) (b:TV) (ex:List Path) (i:Nat) (hi:∀ j,(S.at j).refs i=false) (j:Nat):((S.put (some d) (.v b ex)).at j).refs i=false:=by
 rw[cU]
 split
 ·simp[AV.refs]
 ·cases hr:(S.at j).refs d&&(S.at d).sY with
  |true=>simp[AV.refs]
  |false=>exact hi j
theorem Pe (S:St) (i:Nat) (hv:(S.at i).sY=true) (j:Nat):((S.put (some i) .dead).at j).refs i=false:=by
 rw[cU]
 split
 ·simp[AV.refs]
 ·rw[hv,Bool.and_true]
  cases hr:(S.at j).refs i with
  |true=>simp[AV.refs]
  |false=>exact hr
theorem Pf (h:bd σ w0 W0 Z H S a w) {o:Oper} {x:Operand} (ho:o.op=.assign x) (e:yf Θ S o.dst o.type x=some (true,S')):gR P w0 W0 Z H S' a o.dst w (execOp a.eval o):=by
 have cQ:∀ w2,Ext w w2→(execOp a.eval o).run P w2=.ok (.value (a.eval x)) w2:=fun w2 _=>by simp only[execOp,ho];rfl
 unfold yf at e
 split at e
 case h_2=>
  split at e
  ·injection e with e
   injection e with _ e
   subst e
   exact cn h cQ trivial
  ·cases e
 rename_i av dh
 have hh:=bC h dh
 split at e
 ·-- a value of a temporary
  rename_i d i b ex hd
  cases hk:b.m.bQ with
  |true=>
   rw[hk] at e
   simp only[cond_true,Option.some.injEq,Prod.mk.injEq,true_and] at e
   subst e
   obtain⟨cs,h1,h2⟩:=hh
   exact cn h cQ ⟨cs,h1,ng hk (eU _ hk h2)⟩
  |false=>
   rw[hk] at e
   simp only[cond_false] at e
   split at e
   case h_2=>cases e
   cases Kg:(Nat.beq d i|| !Nat.blt d S.length) with
   |true=>rw[Kg] at e;cases e
   |false=>
   rw[Kg] at e
   simp only[cond_false,Option.some.injEq,Prod.mk.injEq,true_and] at e
   subst e
   simp only[Bool.or_eq_false_iff,Bool.not_eq_false'] at Kg
   have agJ:d≠i:=fun e=>by rw[e,Nat.beq_refl] at Kg;cases Kg.1
   have hdl:d<S.length:=Nat.lt_of_succ_le (Nat.le_of_ble_eq_true Kg.2)
   obtain⟨cs,h1,h2⟩:=hh
   simp only[St.dn,Option.some.injEq] at dh
   have BL:i<S.length:=dQ (by rw[dh];exact fun e=>by cases e)
   have hp:=h.iw i
   have hk:fC σ (iw σ S.length i) S.length (X7 σ (.tmp i)):=fC.iw σ BL (fun g hg=>by obtain⟨j,hj,hg⟩:=hg;injection hj with hj;subst hj;exact hg)
   obtain⟨v2,GQ,du,h3⟩:=nw (P:=P) (dst:=some d) (n:=S.length) hp hk (bB _ _ _) cQ h1 h2
   have Wc:=GQ w (Ext.refl w)
   rw[cQ w (Ext.refl w)] at Wc
   injection Wc with e1 e2
   injection e1 with e1
   subst e1
   refine⟨a.eval (.tmp i),cQ,du, ?_⟩
   rw[hd]
   refine h3.setAt (fun j _=>Q0 _ d b [] i (Pe S i (by rw[dh];rfl)) j) ?_
   have htm:bM (a.put (some d) (a.eval (.tmp i))) i=bM a i:=by rw[uO,if_neg (fun e=>agJ e.1.symm)]
   have htd:bM (a.put (some d) (a.eval (.tmp i))) d=bM a i:=by rw[uO,if_pos ⟨rfl,by rw[←h.len];exact hdl⟩];rfl
   refine⟨b,cs,cs,⟨⟨[], ?_,fun q hq=>by simp at hq⟩,trivial,⟨b,rfl,rfl⟩,by rw[htd];exact h1⟩,rfl,by rw[htm];exact h1⟩
   rw[cr,if_neg (fun e=>agJ e.1),cU,if_pos ⟨rfl,by rw[bB];exact hdl⟩]
   rfl
 ·-- another value
  rename_i b ex mo
  cases hk:b.m.bQ with
  |true=>
   rw[hk] at e
   simp only[cond_true,Option.some.injEq,Prod.mk.injEq,true_and] at e
   subst e
   obtain⟨cs,h1,h2⟩:=hh
   exact cn h cQ ⟨cs,h1,ng hk (eU _ hk h2)⟩
  |false=>
   rw[hk] at e
   simp only[cond_false] at e
   split at e
   case h_2=>cases e
   simp only[Option.some.injEq,Prod.mk.injEq,true_and] at e
   subst e
   obtain⟨cs,h1,h2⟩:=hh
   exact cn h cQ ⟨cs,h1,aN (a6.refl _ _) _ (fun _ _ _=>rfl) (fun g hg _=>by obtain⟨i,hi,_⟩:=hg;cases hi) (fun _ h=>h) h2⟩
 ·rename_i d t s hd
  cases uP:Nat.beq s d with
  |true=>rw[uP] at e;cases e
  |false=>
   rw[uP] at e
   simp only[cond_false,Option.some.injEq,Prod.mk.injEq,true_and] at e
   subst e
   exact cn h cQ hh
 ·rename_i d f c hd
  cases uP:AV.refs d (.nc f c) with
  |true=>rw[uP] at e;cases e
  |false=>
   rw[uP] at e
   simp only[cond_false,Option.some.injEq,Prod.mk.injEq,true_and] at e
   subst e
   exact cn h cQ hh
 ·simp only[Option.some.injEq,Prod.mk.injEq,true_and] at e
  subst e
  exact cn h cQ hh
 ·split at e
  case h_2=>cases e
  rename_i b S1 hb
  simp only[Option.some.injEq,Prod.mk.injEq,true_and] at e
  subst e
  obtain⟨bK,cs,ow,h1,hm,hM,hk,hn⟩:=ef h dh hb
  exact nw h1 hk hn cQ hm hM
end Go.Pv
namespace Go.Pv
set_option linter.unusedVariables false
set_option linter.unusedSimpArgs false
variable {P:Program} {w w':World} {A A' Wr:Nat→Prop} {H:Nat→Value} {tm o7:Nat→Value} {S S' S1:St} {σ bK du:Nat→Option Nat} {w0:World} {W0 Z:Nat→Prop} {a:Act} {own:Nat→Prop} {v:Value} {Θ:cK} {dst:Option Nat}
theorem Q1 {t:Ty} (h:isAgg t=false):t.size=1:=by cases t<;>simp[isAgg] at h<;>rfl
theorem Q2 (hT:cM P Θ=true) (h:bd σ w0 W0 Z H S a w) {o:Oper} {T:TypeId} {x:Operand} {f:Nat} (ho:o.op=.field T x f) (e:Dk Θ S o.dst T x f=some (true,S')):gR P w0 W0 Z H S' a o.dst w (execOp a.eval o):=by
 unfold Dk at e
 split at e
 case h_2=>cases e
 rename_i b ex i dh hi
 cases hc:(Nat.blt f i.fs.length&&decide (i.ty=b.t)) with
 |false=>rw[hc] at e;cases e
 |true=>
 rw[hc] at e
 simp only[cond_true] at e
 simp only[Bool.and_eq_true,decide_eq_true_eq] at hc
 obtain⟨cI,eQ⟩:=hc
 have cI:f<i.fs.length:=Nat.lt_of_succ_le (Nat.le_of_ble_eq_true cI)
 split at e
 case h_2=>cases e
 rename_i j
 split at e
 case h_2=>cases e
 rename_i c hg
 simp only[St.dn,Option.some.injEq] at dh
 have hh:=h.holds j
 rw[dh] at hh
 obtain⟨cs,hm,hM⟩:=hh
 obtain⟨_,hu,PX⟩:=cO hT hi
 have hp:=gS f i.fs.length
 obtain⟨pa,pb,hpp⟩:=tD (QF cI) hp hg
 obtain⟨fs,f1,f2,f3,_⟩:=lN hu (eQ.trans hpp)
 rw[PX] at f1
 have Cw:fs.toList.length=i.fs.length:=by rw[←f2,List.length_map]
 have O9:fs.size=i.fs.length:=by rw[←Cw,Array.length_toList]
 obtain⟨fd,hfd⟩:∃ fd,fs[f]? =some fd:=⟨_,Array.getElem?_eq_getElem (by omega)⟩
 obtain⟨t,t1,t2,t3,_⟩:=gQ f3 f fd (by rw[Array.getElem?_toList];exact hfd)
 rw[Nat.zero_add,O9,eQ] at t1 t3
 have Wg:c.t=t:=by
  have:=ob _ hp hg
  rw[t1] at this
  injection this with this
  exact this.symm
 subst Wg
 obtain⟨hlen,WO⟩:=eS _ hM
 have po:=cT _ hp hg
 have Q3:aJ w (mm f i.fs.length) b.t cs=some ((cs.drop (aE (mm f i.fs.length) b.t)).take c.t.size):=dp _ hp hg hlen
 obtain⟨v,hv,cQ⟩:∃ v,an c.t v ((cs.drop (aE (mm f i.fs.length) b.t)).take c.t.size)∧∀ w2,Ext w w2→(execOp a.eval o).run P w2=.ok (.value v) w2:=by
  have gY:a.eval (.tmp j)=.agg cs.toArray:=by
   unfold an at hm
   rw[if_pos (by rw[hpp];rfl)] at hm
   exact hm
  have Kc:=Kq hT t2
  obtain⟨inf,s1,s2,_⟩:=gD hT t2
  have hso:∀ w2,(sizeOf fd.type).run P w2=.ok c.t.size w2:=fun w2=>by simp[sizeOf,typeInfo,s1,s2]
  cases Qz:isAgg c.t with
  |true=>
   refine⟨.agg (cs.toArray.extract (aE (mm f i.fs.length) b.t) (aE (mm f i.fs.length) b.t+c.t.size)), ?_,fun w2 _=> ?_⟩
   ·unfold an
    rw[if_pos Qz]
    congr 1
    apply Array.toList_inj.1
    rw[Array.toList_extract,List.toList_toArray,List.toList_toArray,List.extract_eq_drop_take']
    rw[List.drop_take,Nat.add_sub_cancel_left]
   ·rw[Qz] at Kc
    have Q4:(part fd.type cs.toArray fd.offset).run P w2=.ok (.agg (cs.toArray.extract (aE (mm f i.fs.length) b.t) (aE (mm f i.fs.length) b.t+c.t.size))) w2:=by
     unfold part
     simp only[Sem.run_bind,Kc,Result.andThen_ok,if_true,hso,t3]
     rfl
    simp only[execOp,ho,gY,Instr.field,Sem.run_bind,run_underlying f1,Result.andThen_ok,hfd,asAgg,Sem.run_pure,Q4]
  |false=>
   have h1:=Q1 Qz
   have Kr:aE (mm f i.fs.length) b.t<cs.length:=by omega
   refine⟨cs[aE (mm f i.fs.length) b.t], ?_,fun w2 _=> ?_⟩
   ·unfold an
    rw[if_neg (by rw[Qz];exact Bool.false_ne_true),h1,List.drop_eq_getElem_cons Kr,List.take_succ_cons,List.take_zero]
   ·rw[Qz] at Kc
    have Q4:(part fd.type cs.toArray fd.offset).run P w2=.ok (cs[aE (mm f i.fs.length) b.t]) w2:=by
     unfold part
     simp only[Sem.run_bind,Kc,Result.andThen_ok,if_neg Bool.false_ne_true,t3]
     rw[List.getElem?_toArray,List.getElem?_eq_getElem Kr]
     rfl
    simp only[execOp,ho,gY,Instr.field,Sem.run_bind,run_underlying f1,Result.andThen_ok,hfd,asAgg,Sem.run_pure,Q4]
 have hvalid:=gv _ hp hg
 cases hk:c.m.bQ with
 |true=>
  rw[hk] at e
  simp only[cond_true] at e
  split at e
  case h_2=>cases e
  simp only[Option.some.injEq,Prod.mk.injEq,true_and] at e
  subst e
  obtain⟨cL,cG,k1,k2,k3⟩:=focus _ hM (fun q hq=>by simp at hq) hvalid hg
  rw[Q3] at k1
  injection k1 with k1
  subst k1
  exact cn h cQ ⟨_,hv,eX _ (eU _ hk k3)⟩
 |false=>
  rw[hk] at e
  simp only[cond_false] at e
  split at e
  case h_2=>cases e
  rename_i c' yy
  simp only[Option.some.injEq,Prod.mk.injEq,true_and] at e
  subst e
  obtain⟨r,xL,q1,q2,q3⟩:=dx yy
  rw[dh] at q1
  injection q1 with q1 yM
  subst q1 yM
  exact cn h cQ ⟨b,cs,_,⟨⟨ex,dh,dq q2⟩,hvalid,⟨c,hg,rfl⟩,hm⟩,Q3,hv⟩
theorem vS (h:bd σ w0 W0 Z H S a w):∀ {xs:List Operand} {l:List Dj},yh S xs=some l→xs.length=l.length∧∀ (j:Nat) (c:Dj),l[j]? =some c→∃ u,(xs.map a.eval)[j]? =some u∧lJ w (Av σ Z) (bM a) S c u
 |[],l,e=>by
  simp only[yh,Option.some.injEq] at e
  subst e
  exact⟨rfl,fun j c hj=>by simp at hj⟩
 |x::xs,l,e=>by
  simp only[yh] at e
  split at e
  case h_2=>cases e
  rename_i c l2 hc hl
  simp only[Option.some.injEq] at e
  subst e
  obtain⟨h1,h2⟩:=vS h hl
  refine⟨by simp[h1],fun j c' hj=> ?_⟩
  cases j with
  |succ j=>simpa using h2 j c' (by simpa using hj)
  |zero=>
   simp only[List.getElem?_cons_zero,Option.some.injEq] at hj
   subst hj
   refine⟨a.eval x,rfl, ?_⟩
   unfold XZ at hc
   split at hc
   case h_2=>cases hc
   rename_i i
   have hh:=h.holds i
   split at hc
   ·rename_i t T tag me y ex dG
    injection hc with hc
    subst hc
    rw[dG] at hh
    obtain⟨cs,h1,h2⟩:=hh
    exact⟨_,cs,cs,⟨⟨ex,dG,fun q _ s r e=>by cases q<;>simp at e⟩,trivial,⟨_,rfl,rfl⟩,h1⟩,rfl,h1⟩
   ·rename_i t y ex dG
    injection hc with hc
    subst hc
    rw[dG] at hh
    obtain⟨cs,h1,h2⟩:=hh
    have PY:cs=[bM a i]:=by simpa[an,isAgg] using h1
    subst PY
    simp only[M] at h2
    rcases h2 with⟨_,hx,_⟩ |⟨_,h2⟩ |⟨T,tag,me,g,cur,hx,_⟩
    ·simp[Md.bQ] at hx
    ·exact h2
    ·cases hx
   ·rename_i t s p dG
    injection hc with hc
    subst hc
    rw[dG] at hh
    exact hh
   ·cases hc
theorem GR (h:bd σ w0 W0 Z H S a w) {o:Oper} {f:FuncId} {first cq:Array Operand} (ho:o.op=.makeFunc (.func f) first cq) (e:rQ S o.dst f first.toList cq.toList=some (true,S')):gR P w0 W0 Z H S' a o.dst w (execOp a.eval o):=by
 unfold rQ at e
 split at e
 case h_2=>cases e
 rename_i l hf hl
 split at e
 case h_2=>cases e
 rename_i d hd
 cases hr:AV.refs d (.nc f l) with
 |true=>rw[hr] at e;cases e
 |false=>
 rw[hr] at e
 simp only[cond_false,Option.some.injEq,Prod.mk.injEq,true_and] at e
 subst e
 obtain⟨h1,h2⟩:=vS h hl
 have hfe:first=#[]:=by
  apply Array.toList_inj.1
  rw[hf]
 refine cn (v:=.func (.func f) #[] (cq.map a.eval)) h (fun w2 _=>by simp[execOp,ho,Instr.makeFunc,hfe]) ⟨cq.toList.map a.eval, ?_,by rw[List.length_map,h1],h2⟩
 congr 1
 apply Array.toList_inj.1
 simp
theorem GS (h:bd σ w0 W0 Z H S a w) {o:Oper} {x:Operand} (ho:o.op=.move x) (e:nQ Θ S o.dst o.type x=some (true,S')):jR P w0 W0 Z H S' a o.dst w (execOp a.eval o):=by
 by_cases hnt:∃ l,S.dn Θ o.type x=some (.qZ l)
 rotate_left
 ·exact WB h ho (fun l hl=>hnt ⟨l,hl⟩) e
 obtain⟨l,hl⟩:=hnt
 unfold nQ at e
 rw[hl] at e
 simp only at e
 split at e
 case h_2=>cases e
 rename_i d i hd
 cases hc:(Nat.beq d i|| !Nat.blt d S.length) with
 |true=>rw[hc] at e;cases e
 |false=>
  rw[hc] at e
  simp only[cond_false,Option.some.injEq,Prod.mk.injEq,true_and] at e
  subst e
  have dG:S.at i=.qZ l:=by simpa[St.dn] using hl
  have hh:=h.holds i
  rw[dG] at hh
  obtain⟨vs,τ,h1,h2,h3⟩:=hh
  refine⟨bM a i,fun w2=>by simp only[execOp,ho];rfl, ?_⟩
  rw[hd]
  have hp:=h.iw i
  have hgo:=hp.Mz (dst:=some d) (v:=bM a i) (av:=.qZ l) (ow:=fun g=>σ g=some i) (w':=w) (Nat.le_refl _) (fun _ _ _=>rfl) h.fr (fun g hg=>⟨h.lt g i hg,.inl ⟨S.length,by rw[bB];exact Nat.le_refl _,by unfold iw;rw[if_pos hg]⟩⟩) (fun d' Mr q1 q2=> ?_)
  ·exact⟨_,hgo⟩
  ·refine⟨vs,τ,h1,h2,fun j b hb=> ?_⟩
   obtain⟨u,cs,u1,u2,u3⟩:=h3 j b hb
   refine⟨u,cs,u1,u2,aN ⟨fun _ _ _=>rfl,fun g hg hx=> ?_⟩ _ (fun _ _ _=>rfl) (fun g hg _=>⟨q1 g hg.1,hg.2⟩) (fun _ h=>h) u3⟩
   rcases q2 g hx with q |q
   ·exact Mw.1 q
   ·exact .inl ⟨i,q⟩
theorem Q5 (hT:cM P Θ=true) (h:bd σ w0 W0 Z H S a w) {hn:Hn} {o:Oper} (hq:quiet o.op=true) (e:ev Θ hn S o=some (true,S')):gR P w0 W0 Z H S' a o.dst w (execOp a.eval o):=by
 unfold ev at e
 split at e
 case h_1 x ho=>exact(GS h ho e).q
 case h_2 x ho=>exact Pf h ho e
 case h_3 c x y ho=>exact WE h ho e
 case h_4 T ho=>rw[ho] at hq;cases hq
 case h_5 T x ho=>rw[ho] at hq;cases hq
 case h_6 T ps ho=>exact(GL hT h ho e).q
 case h_7 T n ps ho=>rw[ho] at hq;cases hq
 case h_8 T x ho=>exact WH hT h ho e
 case h_9 T x y ho=>rw[ho] at hq;cases hq
 case h_10 x ho=>exact GB h ho e
 case h_11 T x f ho=>exact(tE hT h ho e).q
 case h_12 T x f ho=>exact Q2 hT h ho e
 case h_13 T x ix ho=>exact(tF hT h ho e).q
 case h_14 T x ix ho=>exact QB hT h ho e
 case h_15 x j ho=>exact(y9 h ho e).q
 case h_16 T x lo hi mx ho=>exact(GD hT h ho e).q
 case h_17 T T' x ho=>exact Gx hT h ho e
 case h_18 op T x y p ho=>exact(QA hT h ho e).q
 case h_19 op T x ho=>exact agu h ho e
 case h_20 T l c ho=>rw[ho] at hq;cases hq
 case h_21 f first cq ho=>exact GR h ho e
 case h_22 as ts ho=>exact(QC hT h ho e).q
 case h_23 as ts ho=>rw[ho] at hq;cases hq
 case h_24=>cases e
def Kz:Op→Bool
 | .extract .. =>true | .indexAddr .. =>true | .binOp .. =>true | .slice .. =>true | .move _=>true | .convert .. =>true | .fieldAddr .. =>true | .build .. =>true | .call { callee:=.builtin .len,.. }=>true |_=>false
theorem abd (hT:cM P Θ=true) (h:bd σ w0 W0 Z H S a w) {hn:Hn} {o:Oper} (hq:Kz o.op=true) (Ci:(match o.op with
 | .convert _ T' _=>(match Θ.find T' with
  |some i=>(match i.ty with
   | .int _=>true
   |_=>false)
  |none=>false)
 |_=>true)=true) (e:ev Θ hn S o=some (true,S')):jR P w0 W0 Z H S' a o.dst w (execOp a.eval o):=by
 unfold Kz at hq
 split at hq
 ·rename_i x j ho
  unfold ev at e
  rw[ho] at e
  exact y9 h ho e
 ·rename_i T x ix ho
  unfold ev at e
  rw[ho] at e
  exact tF hT h ho e
 ·rename_i op T x y T' ho
  unfold ev at e
  rw[ho] at e
  exact QA hT h ho e
 ·rename_i T x lo hi mx ho
  unfold ev at e
  rw[ho] at e
  exact GD hT h ho e
 ·rename_i x ho
  unfold ev at e
  rw[ho] at e
  exact GS h ho e
 ·rename_i T T' x ho
  unfold ev at e
  rw[ho] at e
  rw[ho] at Ci
  exact yK hT h ho Ci e
 ·rename_i T x f ho
  unfold ev at e
  rw[ho] at e
  exact tE hT h ho e
 ·rename_i T ps ho
  unfold ev at e
  rw[ho] at e
  exact GL hT h ho e
 ·rename_i as ts ho
  unfold ev at e
  rw[ho] at e
  exact QC hT h ho e
 ·cases hq
def GU:Op→Bool
 | .alloc _=>true | .box .. =>true | .buildSlice .. =>true | .makeSlice .. =>true |o=>quiet o
theorem Q6 (hT:cM P Θ=true) (h:bd σ w0 W0 Z H S a w) {hn:Hn} {o:Oper} (hq:GU o.op=true) (e:ev Θ hn S o=some (true,S')):vQ P w0 W0 Z H S' a o.dst w (execOp a.eval o):=by
 cases hqq:quiet o.op with
 |true=>exact(Q5 hT h hqq e).xy
 |false=>
 unfold ev at e
 split at e
 case h_4 T ho=>exact QN hT h ho e
 case h_5 T x ho=>exact aa3 hT h ho e
 case h_7 T n ps ho=>exact BU hT h ho e
 case h_20 T l c ho=>exact DI hT h ho e
 case h_24=>cases e
 case h_9 T x y ho=>rw[ho] at hq;cases hq
 case h_23 as ts ho=>rw[ho] at hq;cases hq
 all_goals (rename_i ho;rw[ho] at hqq;cases hqq)
theorem GV (h:bd σ w0 W0 Z H S a w) {S1:St} {T:TypeId} {y:Operand} {s:Sem Next} {dst:Option Nat} (g:BR P w0 W0 Z H S1 a dst w s) (hd:dst=none):BR P w0 W0 Z H (nS Θ S S1 T y) a dst w s:=by
 subst hd
 unfold nS
 split
 case h_2=>exact g
 rename_i t0 s0 _
 split
 case h_2=>exact g
 rename_i t m xs hs Wd
 cases hk:m.bQ with
 |true=>exact g
 |false=>
 simp only[cond_false]
 obtain⟨w',v,h1,dH,h2⟩:=g
 refine⟨w',v,h1, ?_⟩
 have hh:=h.holds s0
 rw[hs] at hh
 obtain⟨cs,hm,hM⟩:=hh
 have jS:∃ A c,cs=[.slice A xs.length c]:=by
  simp only[M] at hM
  rcases hM with⟨hn,_⟩ |⟨fA,_⟩ |⟨T',tag,me,A,c,_,rfl,_⟩
  ·simp at hn
  ·rw[hk] at fA;cases fA
  ·exact⟨A,c,rfl⟩
 have ha:a.put none v=a:=rfl
 rw[ha] at h2 ⊢
 have h3:=h2.pure (dst:=some s0) (av:=.v ⟨.sl t,m,xs⟩ [[]]) (v:=bM a s0) ⟨cs,hm,by
  simp only[M]
  exact .inl ⟨by simp,hk,jS⟩⟩
 rw[jt] at h3
 have he:S1.put (some s0) (.v ⟨.sl t,m,xs⟩ [[]])=S1.set s0 (.v ⟨.sl t,m,xs⟩ [[]]):=by
  simp only[St.put,Wd]
  rfl
 rw[he] at h3
 exact⟨_,h3⟩
theorem agK (hT:cM P Θ=true) (h:bd σ w0 W0 Z H S a w) {hn:Hn} {o:Oper} (e:ev Θ hn S o=some (true,S')):BR P w0 W0 Z H S' a o.dst w (execOp a.eval o):=by
 cases hq:GU o.op with
 |true=>exact(Q6 hT h hq e).goes
 |false=>
 unfold ev at e
 split at e
 case h_9 T x y ho=>
  split at e
  ·rename_i hd
   split at e
   ·rename_i g S1 he
    injection e with e
    injection e with e1 e2
    subst e1 e2
    exact GV h (QQ hT h ho hd he) hd
   ·cases e
  ·cases e
 case h_23 as ts ho=>
  split at e
  ·rename_i r hr
   injection e with e
   subst e
   exact Pd hT h ho hr
  ·exact Ky hT h ho e
 case h_24=>cases e
 all_goals (rename_i ho;rw[ho] at hq;cases hq)
end Go.Pv
namespace Go.Pv
set_option linter.unusedVariables false
set_option linter.unusedSimpArgs false
variable {P:Program} {w w':World} {A A' Wr:Nat→Prop} {H:Nat→Value} {tm o7:Nat→Value} {S S' S1:St} {σ bK du:Nat→Option Nat} {w0:World} {W0 Z:Nat→Prop} {a:Act} {own:Nat→Prop} {v:Value} {Θ:cK} {dst:Option Nat}
def WU (σ:Nat→Option Nat) (g:Nat):Prop:=∃ i,σ g=some i
def vT (w:World) (A:Nat→Prop) (H:Nat→Value):Arg→Value→(Nat→Prop)→Prop
 | .tv b,v,own=>∃ cs,an b.t v cs∧M w A H b.t b.m b.x cs own []
 | .fn f cq,v,_=>∃ vs:List Value,v=.func (.func f) #[] vs.toArray∧vs.length=cq.length∧∀ (j:Nat) (c:TV),cq[j]? =some c→∃ u,vs[j]? =some u∧K w A c.t c.x [u]
abbrev Gl:=Nat→Option Obj
structure In (Γ:Gl) (B:Nat→Prop) (H:Nat→Value) (w:World) (σ:Nat→Option Nat) (args:List Arg) (cy:List Value):Prop where
 len:cy.length=args.length
 lt:∀ g i,σ g=some i→i<args.length∧g<w.heap.size
 old:∀ g,B g→σ g=none∧g<w.heap.size
 env:∀ g o,Γ g=some o→σ g=none∧w.heap[g]? =some o
 ok:∀ (j:Nat) (a:Arg),args[j]? =some a→∃ v,cy[j]? =some v∧vT w (Av σ B) H a v (fun g=>σ g=some j)
def MF:List Value→Value
 |[u]=>u
 |vs=>.tuple vs.toArray
structure Out (B:Nat→Prop) (H:Nat→Value) (w w':World) (σ:Nat→Option Nat) (rt:af) (v:Value):Prop where
 fr:Fr w (WU σ) w'
 res:∃ (dH:Nat→Option Nat) (vs:List Value),v=MF vs∧vs.length=rt.res.length∧(∀ g i,dH g=some i→(w.heap.size≤g∨WU σ g)∧g<w'.heap.size)∧
  (∀ (i:Nat) (b:TV),rt.res[i]? =some b→∃ u cs,vs[i]? =some u∧an b.t u cs∧M w' (Av dH B) H b.t b.m b.x cs (fun g=>dH g=some i) [])∧
  ∀ c,rt.refs=[c]→∃ cs,M w' (Av dH B) H c.t c.m c.x cs (fun g=>dH g=some rt.res.length) []
def GW (P:Program) (f:FuncId) (cy:List Value) (w:World) (R:Value→World→Prop):Prop:=
 ((callFunc f cy.toArray).run P w=.ok (.enter f cy.toArray) w∧Calls P f cy.toArray w fun
  | .returned v,w'=>R v w'
  |_,_=>False)∨∃ v w',(callFunc f cy.toArray).run P w=.ok (.value v) w'∧R v w'
theorem GW.mono {f:FuncId} {cy:List Value} {R R':Value→World→Prop} (h:GW P f cy w R) (hr:∀ v w',R v w'→R' v w'):GW P f cy w R':=by
 rcases h with⟨h1,h2⟩ |⟨v,w',h1,h2⟩
 ·refine .inl ⟨h1,h2.mono fun e w' he=> ?_⟩
  cases e<;>first |exact hr _ _ he |exact he
 ·exact .inr ⟨v,w',h1,hr _ _ h2⟩
def MG (Γ:Gl) (P:Program) (f:FuncId) (run:List Arg→(af→Option af)→Option af):Prop:=
 ∀ (args:List Arg) (kf:af→Option af) (ret:af) (w:World) (σ:Nat→Option Nat) (cy:List Value) (H:Nat→Value) (B:Nat→Prop),run args kf=some ret→In Γ B H w σ args cy→
  GW P f cy w fun v w'=>∃ rt,kf rt=some ret∧Out B H w w' σ rt v
def Sound (Γ:Gl) (P:Program) (f:FuncId) (run:List Arg→(af→Option af)→Option af):Prop:=MG Γ P f run∧∀ as,dc (run as)
def abe (Γ:Gl) (P:Program) (O:bE):Prop:=∀ f,Sound Γ P f (O.run f)
structure nz (Γ:Gl) (P:Program) (O:bE) (w0:World) (W0:Nat→Prop):Prop where
 sd:abe Γ P O
 env:∀ g o,Γ g=some o→ ¬W0 g∧w0.heap[g]? =some o
theorem nz.det {Γ:Gl} {P:Program} {O:bE} {w0:World} {W0:Nat→Prop} (h:nz Γ P O w0 W0):nj O:=fun f=>(h.sd f).2
variable {Γ:Gl}
theorem Q7 {l:List Entry} (h:∀ e∈l,Sound Γ P e.f e.run):abe Γ P (bE.of l):=by
 intro f
 have key:∀ (l:List Entry) (e:Entry),entry l f=some e→e∈l∧e.f=f:=by
  intro l
  induction l with
  |nil=>intro e h;cases h
  |cons e' r ih=>
   intro e h
   simp only[entry] at h
   cases hb:Nat.beq e'.f f with
   |true=>
    rw[hb] at h
    injection h with h
    subst h
    exact⟨by simp,Nat.eq_of_beq_eq_true hb⟩
   |false=>
    rw[hb] at h
    obtain⟨h1,h2⟩:=ih e h
    exact⟨by simp[h1],h2⟩
 simp only[bE.of]
 split
 ·rename_i e he
  obtain⟨h1,h2⟩:=key l e he
  rw[←h2]
  exact h e h1
 ·exact⟨fun args kf ret w σ cy H B hr=>(by cases hr),fun _=>dc.none⟩
theorem za:∀ (t:Ty) {x:t.I} {cs:List Value},gC t=true→K w A t x cs→K w' A' t x cs
 | .int _,_,_,_,h=>h
 | .bool,_,_,_,h=>h
 | .str,_,_,_,h=>h
 | .unit,_,_,_,h=>h
 | .pair a b,x,cs,hf,h=>by
  simp only[gC,Bool.and_eq_true] at hf
  simp only[K] at h ⊢
  obtain⟨c0,c1,rfl,h0,h1⟩:=h
  exact⟨c0,c1,rfl,za a hf.1 h0,za b hf.2 h1⟩
 | .arr n t,x,cs,hf,h=>by
  simp only[gC] at hf
  simp only[K] at h ⊢
  obtain⟨eD,rfl,hl,hx,hj⟩:=h
  exact⟨eD,rfl,hl,hx,fun j h1 h2=>za t hf (hj j h1 h2)⟩
theorem ia:∀ (t:Ty) {m:Md} {x:t.I} {cs:List Value} {ow:Nat→Prop},fG t m=true→M w A H t m x cs ow []→M w A' H t m x cs ow []
 | .sl t,.o T tag me,xs,cs,ow,hs,h=>by
  simp only[fG] at hs
  simp only[M] at h ⊢
  rcases h with⟨hn,_⟩ |⟨hk,_⟩ |⟨T,tag,me,X,c,e1,e2,hc,ht,h⟩
  ·simp at hn
  ·simp[Md.bQ] at hk
  ·injection e1 with e1 DD y6
   subst e1 DD y6
   refine .inr (.inr ⟨_,_,_,X,c,rfl,e2,hc,ht, ?_⟩)
   rcases h with h |⟨g,cur,τ,h1,h2,h3,h4,h5,h6⟩
   ·exact .inl h
   ·exact .inr ⟨g,cur,τ,h1,h2,h3,h4,h5,fun j hj=>ia t hs (h6 j hj)⟩
 | .ptr t,.o T tag me,x,cs,ow,hs,h=>by
  simp only[fG] at hs
  simp only[M] at h ⊢
  rcases h with⟨hn,_⟩ |⟨hk,_⟩ |⟨T,tag,me,g,cur,e1,e2,ht,hg,hw,h⟩
  ·simp at hn
  ·simp[Md.bQ] at hk
  ·injection e1 with e1 DD y6
   subst e1 DD y6
   exact .inr (.inr ⟨_,_,_,g,cur,rfl,e2,ht,hg,hw,ia t hs h⟩)
 | .pair a b,.p ma mb,x,cs,ow,hs,h=>by
  simp only[fG,Bool.and_eq_true] at hs
  simp only[M] at h ⊢
  rcases h with⟨hn,_⟩ |⟨hk,h⟩ |⟨ma,mb,c0,c1,s,e1,e2,h0,h1⟩
  ·simp at hn
  ·simp only[K] at h
   simp only[Md.bQ,Bool.and_eq_true] at hk
   obtain⟨c0,c1,e2,h0,h1⟩:=h
   refine .inr (.inr ⟨ma,mb,c0,c1,fun _=>True,rfl,e2,ia a hs.1 (ng hk.1 h0),ia b hs.2 (ng hk.2 h1)⟩)
  ·injection e1 with e1 DD
   subst e1 DD
   exact .inr (.inr ⟨_,_,c0,c1,s,rfl,e2,ia a hs.1 h0,ia b hs.2 h1⟩)
 | .sl t,.k,xs,cs,ow,hs,h=>by simp[fG,gC] at hs
 | .sl t,.p _ _,xs,cs,ow,hs,h=>by simp[fG,gC] at hs
 | .ptr t,.k,xs,cs,ow,hs,h=>by simp[fG,gC] at hs
 | .ptr t,.p _ _,xs,cs,ow,hs,h=>by simp[fG,gC] at hs
 | .pair a b,.k,xs,cs,ow,hs,h=>by
  simp only[fG,Bool.and_eq_true] at hs
  exact ng hs.1 (za _ hs.2 (eU _ hs.1 h))
 | .pair a b,.o ..,xs,cs,ow,hs,h=>by simp[fG,Md.bQ] at hs
 | .int k,m,x,cs,ow,hs,h=>by simp only[M,K] at h ⊢;exact h
 | .bool,m,x,cs,ow,hs,h=>by simp only[M,K] at h ⊢;exact h
 | .str,m,x,cs,ow,hs,h=>by simp only[M,K] at h ⊢;exact h
 | .unit,m,x,cs,ow,hs,h=>by simp only[M,K] at h ⊢;exact h
 | .arr n t,m,x,cs,ow,hs,h=>by
  have hs:(m.bQ&&gC (.arr n t))=true:=by cases m<;>exact hs
  simp only[Bool.and_eq_true] at hs
  exact ng hs.1 (za _ hs.2 (eU _ hs.1 h))
def Pk (σ:Nat→Option Nat) (n:Nat) (g:Nat):Prop:=∃ i,n≤i∧σ g=some i
theorem WV {t:Ty} {m:Md} {x:t.I} {cs:List Value} {s n:Nat} {ow:Nat→Prop} (hs:s<n) (ho:∀ g,ow g→σ g=some s) (h:M w (Av σ Z) H t m x cs ow []):K w (Pk σ n) t x cs:=
 PV (fun g _ hg=>by obtain⟨i,_,hi⟩:=hg;exact .inl ⟨i,hi⟩) t rfl (fun g hg hx=>by
  obtain⟨i,hi,lP⟩:=hx
  rw[ho g hg] at lP
  injection lP with lP
  omega) h
theorem Q8 (h:bd σ w0 W0 Z H S a w) {T:TypeId} {x:Operand} {av:AV} {b:TV} (ho:S.dn Θ T x=some av) (e:S.qF av=some b):
  ∃ cs,an b.t (a.eval x) cs∧K w (Pk σ S.length) b.t b.x cs:=by
 have hh:=bC h ho
 cases av with
 |v a0 ex=>
  cases ex with
  |cons _ _=>simp[St.qF] at e
  |nil=>
   simp only[St.qF,Option.some.injEq] at e
   subst e
   obtain⟨cs,h1,h2⟩:=hh
   cases x with
   |tmp i=>
    simp only[St.dn,Option.some.injEq] at ho
    exact⟨cs,h1,WV (s:=i) (dQ (by rw[ho];exact fun e=>by cases e)) (fun g hg=>by obtain⟨j,hj,hg⟩:=hg;injection hj with hj;subst hj;exact hg) h2⟩
   |const c=>exact⟨cs,h1,PV (fun g _ hg=>by obtain⟨i,_,hi⟩:=hg;exact .inl ⟨i,hi⟩) _ rfl (fun g hg=>by obtain⟨j,hj,_⟩:=hg;cases hj) h2⟩
   |func f=>exact⟨cs,h1,PV (fun g _ hg=>by obtain⟨i,_,hi⟩:=hg;exact .inl ⟨i,hi⟩) _ rfl (fun g hg=>by obtain⟨j,hj,_⟩:=hg;cases hj) h2⟩
   |global f=>exact⟨cs,h1,PV (fun g _ hg=>by obtain⟨i,_,hi⟩:=hg;exact .inl ⟨i,hi⟩) _ rfl (fun g hg=>by obtain⟨j,hj,_⟩:=hg;cases hj) h2⟩
 |al t s p=>
  simp only[St.qF] at e
  obtain⟨r,bY,cs,hr,hc,hm⟩:=hh
  obtain⟨rfl,cG,k2,k3⟩:=cP h hr hc e
  obtain⟨Ku,QI,_⟩:=hr.at_
  exact⟨cs,hm,WV (s:=s) (dQ (by rw[QI];exact fun e=>by cases e)) k2 k3⟩
 |cut t s p lo hi=>
  simp only[St.qF] at e
  obtain⟨r,bY,t',X,n,c,hr,rfl,hc,Qj,BN,hv⟩:=hh
  cases hp:S.place s p with
  |none=>rw[hp] at e;cases e
  |some b'=>
   obtain⟨ht,cG,k2,k3⟩:=cP h hr hc hp
   obtain⟨bt,bm,bx⟩:=b'
   simp only at ht
   subst ht
   rw[hp] at e
   simp only[Option.some.injEq] at e
   subst e
   obtain⟨Ku,QI,_⟩:=hr.at_
   have hK:=WV (s:=s) (n:=S.length) (dQ (by rw[QI];exact fun e=>by cases e)) k2 k3
   have hn:n=List.length bx:=by
    simp only[K] at hK
    obtain⟨_,_,e,_⟩:=hK
    simp only[List.cons.injEq,Value.slice.injEq,and_true] at e
    exact e.2.1
   subst hn
   rw[hv]
   exact⟨_,by simp[an,isAgg],Mq hK Qj BN⟩
 |_=>simp[St.qF] at e
theorem Q9 {n:Nat}:a6 w w (Av σ Z) (Pk σ n):=⟨fun _ _ _=>rfl,fun g _ hg=>by obtain⟨i,_,hi⟩:=hg;exact .inl ⟨i,hi⟩⟩
theorem pM (h:bd σ w0 W0 Z H S a w):∀ {cq:List Dj} {l:List TV} {vs:List Value},nX S cq=some l→vs.length=cq.length→(∀ (j:Nat) (c:Dj),cq[j]? =some c→∃ u,vs[j]? =some u∧lJ w (Av σ Z) (bM a) S c u)→
  l.length=cq.length∧∀ (j:Nat) (c:TV),l[j]? =some c→∃ u,vs[j]? =some u∧K w (Pk σ S.length) c.t c.x [u]
 |[],l,vs,e,_,_=>by
  simp only[nX,Option.some.injEq] at e
  subst e
  exact⟨rfl,fun j c hj=>by simp at hj⟩
 |c::cq,l,vs,e,hl,hv=>by
  simp only[nX] at e
  split at e
  case h_2=>cases e
  rename_i b l2 hb Yb
  simp only[Option.some.injEq] at e
  subst e
  match vs,hl with
  |u::vs,hl=>
   obtain⟨h1,h2⟩:=pM h (vs:=vs) Yb (by simpa using hl) (fun j c hj=>by simpa using hv (j+1) c (by simpa using hj))
   refine⟨by simp[h1],fun j c' hj=> ?_⟩
   cases j with
   |succ j=>simpa using h2 j c' (by simpa using hj)
   |zero=>
    simp only[List.getElem?_cons_zero,Option.some.injEq] at hj
    subst hj
    obtain⟨u',hu,hc⟩:=hv 0 c rfl
    simp only[List.getElem?_cons_zero,Option.some.injEq] at hu
    subst hu
    refine⟨u,rfl, ?_⟩
    cases c with
    |kv b'=>
     simp only[B9,Option.some.injEq] at hb
     subst hb
     exact bR Q9 _ hc
    |pl t s p=>
     simp only[B9] at hb
     split at hb
     case h_2=>cases hb
     rename_i b' hp
     simp only[Option.some.injEq] at hb
     subst hb
     obtain⟨r,bY,cs,hr,l9,hm⟩:=hc
     obtain⟨s7,cG,k2,k3⟩:=cP h hr l9 hp
     obtain⟨Ku,QI,_⟩:=hr.at_
     have hK:=WV (s:=s) (n:=S.length) (dQ (by rw[QI];exact fun e=>by cases e)) k2 k3
     have:cs=[u]:=by simpa[an,isAgg] using hm
     rw[this] at hK
     exact hK
theorem r9:∀ (xs:List Operand) (Ts:List TypeId) (ps:List Pass) (j:Nat) {S S1:St} {σ:Nat→Option Nat} {l:List (Option TV)},bd σ w0 W0 Z H S a w→fv Θ S xs Ts ps=some (l,S1)→
  ∃ (bK:Nat→Option Nat) (ow:Nat→Prop) (τ:Nat→Nat),bd bK w0 W0 Z H S1 a w∧S1.length=S.length∧fC σ bK S.length ow∧l.length=xs.length∧(∀ g,ow g→j≤τ g∧τ g<j+l.length)∧
   ((∀ p∈ps,p=.val)→∀ g, ¬ow g)∧
   ∀ (k:Nat) (b:TV),l[k]? =some (some b)→∃ x cs,xs[k]? =some x∧an b.t (a.eval x) cs∧M w (Av σ Z) H b.t b.m b.x cs (fun g=>ow g∧τ g=j+k) []
 |[],Ts,ps,j,S,S1,σ,l,h,e=>by
  simp only[fv,Option.some.injEq,Prod.mk.injEq] at e
  obtain⟨rfl,rfl⟩:=e
  exact⟨σ,fun _=>False,fun _=>j,h,rfl,fC.none _ _,rfl,fun _ h=>h.elim,fun _ _ h=>h,fun k b hk=>by simp at hk⟩
 |x::xs,[],ps,j,S,S1,σ,l,h,e=>by simp[fv] at e
 |x::xs,T::Ts,[],j,S,S1,σ,l,h,e=>by simp[fv] at e
 |x::xs,T::Ts,p::ps,j,S,S1,σ,l,h,e=>by
  simp only[fv] at e
  split at e
  ·split at e
   case h_2=>cases e
   rename_i r hr
   simp only[Option.some.injEq,Prod.mk.injEq] at e
   obtain⟨rfl,rfl⟩:=e
   obtain⟨bK,ow,τ,k1,k2,k3,k4,k5,k6,k7⟩:=r9 xs Ts ps (j+1) h hr
   refine⟨bK,ow,τ,k1,k2,k3,by simp[k4],fun g hg=>by have:=k5 g hg;simp only[List.length_cons];omega,fun hp=>k6 (fun p hp'=>hp p (by simp[hp'])),fun k b hk=> ?_⟩
   cases k with
   |zero=>simp at hk
   |succ k=>
    obtain⟨x',cs,q1,q2,q3⟩:=k7 k b (by simpa using hk)
    exact⟨x',cs,by simpa using q1,q2,by rw[show j+(k+1)=j+1+k from by omega];exact q3⟩
  rotate_left
  ·cases e
  ·unfold St.take at e
   split at e
   case h_2=>cases e
   rename_i b S2 hb
   split at hb
   case h_2=>cases hb
   rename_i av dh
   split at e
   case h_2=>cases e
   rename_i r hr
   simp only[Option.some.injEq,Prod.mk.injEq] at e
   obtain⟨rfl,rfl⟩:=e
   obtain⟨bK,cs,ow,h1,hm,hM,hk,hn⟩:=ef h dh hb
   obtain⟨du,nu,τ,k1,k2,k3,k4,k5,k6,k7⟩:=r9 xs Ts ps (j+1) h1 hr
   rw[hn] at k3
   have JR:∀ g,ow g→ ¬nu g:=fun g hg=>hk.apart k3 hg
   let MB:Nat→Nat:=fun g=>open Classical in if ow g then j else τ g
   refine⟨du,fun g=>ow g∨nu g,MB,k1,by omega,hk.trans k3,by simp[k4],fun g hg=> ?_,fun hp=>(fun hx:Pass.take=Pass.val=>nomatch hx) (hp .take (by simp)),fun k b' fA=> ?_⟩
   ·simp only[MB,List.length_cons]
    split
    ·omega
    ·rename_i hx
     have:=k5 g (hg.resolve_left hx)
     omega
   ·cases k with
    |zero=>
     simp only[List.getElem?_cons_zero,Option.some.injEq] at fA
     subst fA
     refine⟨x,cs,rfl,hm,aN (a6.refl _ _) _ (fun _ _ _=>rfl) (fun g hg _=>⟨.inl hg,by simp only[MB,if_pos hg,Nat.add_zero]⟩) (fun _ h=>h) hM⟩
    |succ k=>
     obtain⟨x',cL,q1,q2,q3⟩:=k7 k b' (by simpa using fA)
     refine⟨x',cL,by simpa using q1,q2,aN ⟨fun _ _ _=>rfl,fun g _ hg=>hk.Av.2 hg⟩ _ (fun _ _ _=>rfl) (fun g hg _=>⟨.inr hg.1, ?_⟩) (fun _ h=>h) q3⟩
     simp only[MB]
     rw[if_neg (fun hx=>JR g hx hg.1),hg.2]
     omega
theorem iO (h:bd σ w0 W0 Z H S a w):∀ (xs:List Operand) (Ts:List TypeId) (l:List (Option TV)) {as:List Arg},l.length=xs.length→reads Θ S xs Ts l=some as→
  as.length=xs.length∧∀ (k:Nat) (r:Arg),as[k]? =some r→(∃ b,l[k]? =some (some b)∧r=.tv b)∨∃ x,xs[k]? =some x∧∀ H,vT w (Pk σ S.length) H r (a.eval x) (fun _=>False)
 |[],Ts,l,as,_,e=>by
  simp only[reads,Option.some.injEq] at e
  subst e
  exact⟨rfl,fun k r hk=>by simp at hk⟩
 |x::xs,[],l,as,hl,e=>by simp[reads] at e
 |x::xs,T::Ts,[],as,hl,e=>by simp at hl
 |x::xs,T::Ts,p::ps,as,hl,e=>by
  have Mv:ps.length=xs.length:=by simpa using hl
  simp only[reads] at e
  split at e
  ·rename_i b
   split at e
   case h_2=>cases e
   rename_i r hr
   simp only[Option.some.injEq] at e
   subst e
   obtain⟨h1,h2⟩:=iO h xs Ts ps Mv hr
   refine⟨by simp[h1],fun k r' hk=> ?_⟩
   cases k with
   |zero=>
    simp only[List.getElem?_cons_zero,Option.some.injEq] at hk
    exact .inl ⟨b,rfl,hk.symm⟩
   |succ k=>simpa using h2 k r' (by simpa using hk)
  ·split at e
   ·rename_i f cq dh
    split at e
    case h_2=>cases e
    rename_i cs r jS hr
    simp only[Option.some.injEq] at e
    subst e
    obtain⟨h1,h2⟩:=iO h xs Ts ps Mv hr
    refine⟨by simp[h1],fun k r' hk=> ?_⟩
    cases k with
    |zero=>
     simp only[List.getElem?_cons_zero,Option.some.injEq] at hk
     subst hk
     obtain⟨vs,v1,v2,v3⟩:=bC h dh
     obtain⟨c1,c2⟩:=pM h jS v2 v3
     exact .inr ⟨x,rfl,fun _=>⟨vs,v1,by omega,c2⟩⟩
    |succ k=>simpa using h2 k r' (by simpa using hk)
   ·rename_i av _ dh
    split at e
    case h_2=>cases e
    rename_i b r hb hr
    simp only[Option.some.injEq] at e
    subst e
    obtain⟨h1,h2⟩:=iO h xs Ts ps Mv hr
    refine⟨by simp[h1],fun k r' hk=> ?_⟩
    cases k with
    |zero=>
     simp only[List.getElem?_cons_zero,Option.some.injEq] at hk
     subst hk
     obtain⟨cs,c1,c2⟩:=Q8 h dh hb
     exact .inr ⟨x,rfl,fun _=>⟨cs,c1,eX _ c2⟩⟩
    |succ k=>simpa using h2 k r' (by simpa using hk)
   ·cases e
theorem lR (h:bd σ w0 W0 Z H S a w):∀ (xs:List Operand) (Ts:List TypeId) (l:List (Option TV)) {as:List Arg},l.length=xs.length→reads Θ S xs Ts l=some as→gq S xs l as=true→
  ∀ (k:Nat) (r:Arg),as[k]? =some r→(∃ b,l[k]? =some (some b)∧r=.tv b)∨∃ x,xs[k]? =some x∧∀ H,vT w (Av σ Z) H r (a.eval x) (fun _=>False)
 |[],Ts,l,as,_,e,_=>by
  simp only[reads,Option.some.injEq] at e
  subst e
  exact fun k r hk=>by simp at hk
 |x::xs,[],l,as,hl,e,_=>by simp[reads] at e
 |x::xs,T::Ts,[],as,hl,e,_=>by simp at hl
 |x::xs,T::Ts,p::ps,as,hl,e,hf=>by
  have Mv:ps.length=xs.length:=by simpa using hl
  have fq:=(iO h (x::xs) (T::Ts) (p::ps) hl e).2
  simp only[reads] at e
  split at e
  ·rename_i b
   split at e
   case h_2=>cases e
   rename_i r hr
   simp only[Option.some.injEq] at e
   subst e
   simp only[gq,Bool.true_or,Bool.true_and] at hf
   have h2:=lR h xs Ts ps Mv hr hf
   intro k r' hk
   cases k with
   |zero=>
    simp only[List.getElem?_cons_zero,Option.some.injEq] at hk
    exact .inl ⟨b,rfl,hk.symm⟩
   |succ k=>simpa using h2 k r' (by simpa using hk)
  ·split at e
   ·rename_i f cq dh
    split at e
    case h_2=>cases e
    rename_i cs r jS hr
    simp only[Option.some.injEq] at e
    subst e
    simp only[gq,Bool.false_or,Bool.and_eq_true,List.isEmpty_iff] at hf
    obtain⟨hf1,Wt⟩:=hf
    have h2:=lR h xs Ts ps Mv hr Wt
    intro k r' hk
    cases k with
    |succ k=>simpa using h2 k r' (by simpa using hk)
    |zero=>
     simp only[List.getElem?_cons_zero,Option.some.injEq] at hk
     subst hk
     rcases fq 0 _ rfl with⟨b',BV,_⟩ |⟨x',vO,iN⟩
     ·simp at BV
     ·simp only[List.getElem?_cons_zero,Option.some.injEq] at vO
      subst vO
      refine .inr ⟨x,rfl,fun H'=> ?_⟩
      obtain⟨vs,v1,v2,v3⟩:=iN H'
      exact⟨vs,v1,v2,fun j c hj=>by rw[hf1] at hj;simp at hj⟩
   ·rename_i av _ dh
    split at e
    case h_2=>cases e
    rename_i b r hb hr
    simp only[Option.some.injEq] at e
    subst e
    simp only[gq,Bool.false_or,Bool.and_eq_true,Bool.or_eq_true] at hf
    obtain⟨hf1,Wt⟩:=hf
    have h2:=lR h xs Ts ps Mv hr Wt
    intro k r' hk
    cases k with
    |succ k=>simpa using h2 k r' (by simpa using hk)
    |zero=>
     simp only[List.getElem?_cons_zero,Option.some.injEq] at hk
     subst hk
     rcases hf1 with hs |hs
     ·rcases fq 0 _ rfl with⟨b',BV,_⟩ |⟨x',vO,iN⟩
      ·simp at BV
      ·simp only[List.getElem?_cons_zero,Option.some.injEq] at vO
       subst vO
       refine .inr ⟨x,rfl,fun H'=> ?_⟩
       obtain⟨cs,c1,c2⟩:=iN H'
       exact⟨cs,c1,ia _ hs c2⟩
     ·refine .inr ⟨x,rfl,fun H'=> ?_⟩
      have hh:=bC h dh
      cases x with
      |func f=>simp[rk] at hs
      |global f=>simp[rk] at hs
      |tmp i=>
       simp only[St.dn,Option.some.injEq] at dh
       subst dh
       simp only[rk] at hs
       split at hs
       ·rename_i b0 Wf
        rw[Wf] at hh hb
        simp only[St.qF,Option.some.injEq] at hb
        subst hb
        obtain⟨cs,c1,c2⟩:=hh
        exact⟨cs,c1,ng rfl (eU _ hs c2)⟩
       ·cases hs
      |const c=>
       have hk:∀ a0,av=.v a0 []→∀ H',vT w (Av σ Z) H' (.tv (JV b)) (a.eval (.const c)) fun _=>False:=fun a0 e H'=>by
        subst e
        simp only[St.qF,Option.some.injEq] at hb
        subst hb
        have hh:=bC h dh
        obtain⟨cs,c1,c2⟩:=hh
        exact⟨cs,c1,ng rfl (PV (fun g _ hg=>hg) _ rfl (fun g hg=>by obtain⟨j,hj,_⟩:=hg;cases hj) c2)⟩
       simp only[St.dn] at dh
       cases hc:mj Θ T c with
       |none=>rw[hc] at dh;cases dh
       |some a0=>
        rw[hc] at dh
        simp only[Option.map_some,Option.some.injEq] at dh
        exact hk a0 dh.symm H'
   ·cases e
end Go.Pv
namespace Go.Pv
set_option linter.unusedVariables false
set_option linter.unusedSimpArgs false
variable {P:Program} {w w':World} {A A' B Wr:Nat→Prop} {H H':Nat→Value}
theorem jJ:∀ (t:Ty) {m:Md} {x:t.I} {cs:List Value} {ow:Nat→Prop} {hs:List Path},oT m=true→M w A H t m x cs ow hs→M w A H' t m x cs ow hs
 | .int _,_,_,_,_,_,_,h=>by simp only[M] at h ⊢;exact h
 | .bool,_,_,_,_,_,_,h=>by simp only[M] at h ⊢;exact h
 | .str,_,_,_,_,_,_,h=>by simp only[M] at h ⊢;exact h
 | .unit,_,_,_,_,_,_,h=>by simp only[M] at h ⊢;exact h
 | .arr _ _,_,_,_,_,_,_,h=>by simp only[M] at h ⊢;exact h
 | .sl t,m,xs,cs,ow,hs,hb,h=>by
  simp only[M] at h ⊢
  rcases h with h |h |⟨T,tag,me,X,c,rfl,e2,hc,ht,h⟩
  ·exact .inl h
  ·exact .inr (.inl h)
  ·simp only[oT,Bool.and_eq_true] at hb
   obtain⟨hb1,Q'⟩:=hb
   cases tag with
   |some _=>cases hb1
   |none=>
    refine .inr (.inr ⟨T,none,me,X,c,rfl,e2,hc,fun h hh=>(by cases hh), ?_⟩)
    rcases h with h |⟨g,cur,τ,h1,h2,h3,h4,h5,h6⟩
    ·exact .inl h
    ·exact .inr ⟨g,cur,τ,h1,h2,h3,h4,h5,fun j hj=>jJ t Q' (h6 j hj)⟩
 | .ptr t,m,x,cs,ow,hs,hb,h=>by
  simp only[M] at h ⊢
  rcases h with h |h |⟨T,tag,me,g,cur,rfl,e2,ht,hg,hw,h⟩
  ·exact .inl h
  ·exact .inr (.inl h)
  ·simp only[oT,Bool.and_eq_true] at hb
   obtain⟨hb1,Q'⟩:=hb
   cases tag with
   |some _=>cases hb1
   |none=>exact .inr (.inr ⟨T,none,me,g,cur,rfl,e2,fun h hh=>(by cases hh),hg,hw,jJ t Q' h⟩)
 | .pair a b,m,x,cs,ow,hs,hb,h=>by
  simp only[M] at h ⊢
  rcases h with h |h |⟨ma,mb,c0,c1,s,rfl,e2,h0,h1⟩
  ·exact .inl h
  ·exact .inr (.inl h)
  ·simp only[oT,Bool.and_eq_true] at hb
   exact .inr (.inr ⟨ma,mb,c0,c1,s,rfl,e2,jJ a hb.1 h0,jJ b hb.2 h1⟩)
theorem pN:∀ (t:Ty) {m:Md} {n:Nat},m.bQ=true→(gH t m n).bQ=true
 | .int _,m,n,h=>by simpa[gH] using h
 | .bool,m,n,h=>by simpa[gH] using h
 | .str,m,n,h=>by simpa[gH] using h
 | .unit,m,n,h=>by simpa[gH] using h
 | .arr _ _,m,n,h=>by simpa[gH] using h
 | .sl t,m,n,h=>by cases m<;>simp_all [gH,Md.bQ]
 | .ptr t,m,n,h=>by cases m<;>simp_all [gH,Md.bQ]
 | .pair a b,m,n,h=>by
  cases m with
  |k=>simp[gH,Md.bQ]
  |o=>simp[Md.bQ] at h
  |p ma mb=>
   simp only[Md.bQ,Bool.and_eq_true] at h
   simp only[gH,Md.bQ,Bool.and_eq_true]
   exact⟨pN a h.1,pN b h.2⟩
theorem lS:∀ (t:Ty) {m:Md} {x y:t.I},m.bQ=true→eZ t m x y=x
 | .int _,m,x,y,h=>rfl
 | .bool,m,x,y,h=>rfl
 | .str,m,x,y,h=>rfl
 | .unit,m,x,y,h=>rfl
 | .arr _ _,m,x,y,h=>rfl
 | .sl t,m,x,y,h=>by cases m<;>simp_all [eZ,Md.bQ]
 | .ptr t,m,x,y,h=>by cases m<;>simp_all [eZ,Md.bQ]
 | .pair a b,m,x,y,h=>by
  cases m with
  |k=>simp[eZ]
  |o=>simp[Md.bQ] at h
  |p ma mb=>
   simp only[Md.bQ,Bool.and_eq_true] at h
   simp only[eZ]
   rw[lS a h.1,lS b h.2]
theorem Ra:∀ (t:Ty) {m:Md} {x:t.I} {cs:List Value} {ow:Nat→Prop} {n:Nat},eH t m=true→M w A H t m x cs ow []→(∀ (j:Nat) (u:Value),cs[j]? =some u→H' (n+j)=u)→M w A H' t (gH t m n) x cs ow []
 | .int _,_,_,_,_,_,_,h,_=>by simp only[M,gH] at h ⊢;exact h
 | .bool,_,_,_,_,_,_,h,_=>by simp only[M,gH] at h ⊢;exact h
 | .str,_,_,_,_,_,_,h,_=>by simp only[M,gH] at h ⊢;exact h
 | .unit,_,_,_,_,_,_,h,_=>by simp only[M,gH] at h ⊢;exact h
 | .arr _ _,_,_,_,_,_,_,h,_=>by simp only[M,gH] at h ⊢;exact h
 | .sl t,m,xs,cs,ow,n,hl,h,hH=>by
  simp only[M] at h ⊢
  rcases h with⟨h,_⟩ |⟨hk,h⟩ |⟨T,tag,me,X,c,rfl,rfl,hc,ht,h⟩
  ·simp at h
  ·exact .inr (.inl ⟨pN (.sl t) hk,h⟩)
  ·simp only[eH,Bool.and_eq_true] at hl
   refine .inr (.inr ⟨T,some n,me,X,c,rfl,rfl,hc,fun h hh=> ?_, ?_⟩)
   ·injection hh with hh
    subst hh
    exact hH 0 _ rfl
   ·rcases h with h |⟨g,cur,τ,h1,h2,h3,h4,h5,h6⟩
    ·exact .inl h
    ·exact .inr ⟨g,cur,τ,h1,h2,h3,h4,h5,fun j hj=>jJ t hl (h6 j hj)⟩
 | .ptr t,m,x,cs,ow,n,hl,h,hH=>by
  simp only[M] at h ⊢
  rcases h with⟨h,_⟩ |⟨hk,h⟩ |⟨T,tag,me,g,cur,rfl,rfl,ht,hg,hw,h⟩
  ·simp at h
  ·exact .inr (.inl ⟨pN (.ptr t) hk,h⟩)
  ·simp only[eH,Bool.and_eq_true] at hl
   refine .inr (.inr ⟨T,some n,me,g,cur,rfl,rfl,fun h hh=> ?_,hg,hw,jJ t hl h⟩)
   injection hh with hh
   subst hh
   exact hH 0 _ rfl
 | .pair a b,m,x,cs,ow,n,hl,h,hH=>by
  simp only[M] at h ⊢
  rcases h with⟨h,_⟩ |⟨hk,h⟩ |⟨ma,mb,c0,c1,s,rfl,rfl,h0,h1⟩
  ·simp at h
  ·exact .inr (.inl ⟨pN (.pair a b) hk,h⟩)
  ·simp only[eH,Bool.and_eq_true] at hl
   have WK:=(eS a h0).1
   refine .inr (.inr ⟨_,_,c0,c1,s,rfl,rfl,Ra a hl.1 h0 (fun j u hj=>hH j u ?_),Ra b hl.2 h1 (fun j u hj=> ?_)⟩)
   ·rw[List.getElem?_append_left (List.getElem?_eq_some_iff.1 hj).1];exact hj
   ·rw[Nat.add_assoc]
    refine hH (a.size+j) u ?_
    rw[List.getElem?_append_right (by omega),WK,Nat.add_sub_cancel_left]
    exact hj
theorem tM (cc:a6 w w' A A'):∀ (t:Ty) {m:Md} {x y:t.I} {cs cL:List Value} {ow cG:Nat→Prop} {n:Nat},eH t m=true→(py t m=true∨a6 w' w' B A')→M w A H t m x cs ow []→(∀ (j:Nat) (u:Value),cs[j]? =some u→H' (n+j)=u)→
  M w' B H' t (gH t m n) y cL cG []→M w' A' H t m (eZ t m x y) cs cG []
 | .int _,_,_,_,_,_,_,_,_,_,_,h,_,_=>by simp only[M,eZ] at h ⊢;exact⟨h.1,bR cc _ h.2⟩
 | .bool,_,_,_,_,_,_,_,_,_,_,h,_,_=>by simp only[M,eZ] at h ⊢;exact⟨h.1,bR cc _ h.2⟩
 | .str,_,_,_,_,_,_,_,_,_,_,h,_,_=>by simp only[M,eZ] at h ⊢;exact⟨h.1,bR cc _ h.2⟩
 | .unit,_,_,_,_,_,_,_,_,_,_,h,_,_=>by simp only[M,eZ] at h ⊢;exact⟨h.1,bR cc _ h.2⟩
 | .arr _ _,_,_,_,_,_,_,_,_,_,_,h,_,_=>by simp only[M,eZ] at h ⊢;exact⟨h.1,bR cc _ h.2⟩
 | .sl t,m,xs,ys,cs,cL,ow,cG,n,hl,hB,h,hH,h'=>by
  simp only[M] at h
  rcases h with⟨h,_⟩ |⟨hk,h⟩ |⟨T,tag,me,X,c,rfl,rfl,hc,ht,h⟩
  ·simp at h
  ·rw[lS _ hk]
   exact ng hk (bR cc _ h)
  ·simp only[eH,Bool.and_eq_true] at hl
   simp only[gH,M] at h'
   rcases h' with⟨h',_⟩ |⟨hk,_⟩ |⟨T2,Pa,me2,X2,c2,e1,e2,gp,ht2,h'⟩
   ·simp at h'
   ·simp[Md.bQ] at hk
   ·injection e1 with e1 DD y6
    subst e1 DD y6
    have q1:=ht2 n rfl
    rw[show H' n=.slice X xs.length c from hH 0 _ rfl] at q1
    injection q1 with q1 q2 q3
    subst q1 q3
    simp only[M,eZ]
    refine .inr (.inr ⟨T,tag,me,X,c,rfl,by rw[q2],gp,fun h hh=>by rw[ht h hh,q2], ?_⟩)
    rcases h' with h' |⟨g,cur,τ,k1,k2,k3,k4,k5,k6⟩
    ·exact .inl h'
    ·exact .inr ⟨g,cur,τ,k1,k2,k3,k4,k5,fun j hj=>hB.elim (fun hs=>ia t hs (jJ t hl (k6 j hj))) fun cc=>aN cc t (fun _ _ _=>rfl) (fun _ h _=>h) (fun _ h=>h) (jJ t hl (k6 j hj))⟩
 | .ptr t,m,x,y,cs,cL,ow,cG,n,hl,hB,h,hH,h'=>by
  simp only[M] at h
  rcases h with⟨h,_⟩ |⟨hk,h⟩ |⟨T,tag,me,g,cur,rfl,rfl,ht,hg,hw,h⟩
  ·simp at h
  ·rw[lS _ hk]
   exact ng hk (bR cc _ h)
  ·simp only[eH,Bool.and_eq_true] at hl
   simp only[gH,M] at h'
   rcases h' with⟨h',_⟩ |⟨hk,_⟩ |⟨T2,Pa,me2,g2,BJ,e1,e2,ht2,o6,xw,h'⟩
   ·simp at h'
   ·simp[Md.bQ] at hk
   ·injection e1 with e1 DD y6
    subst e1 DD y6
    have q1:=ht2 n rfl
    rw[show H' n=.pointer (some ⟨g,0,none⟩) from hH 0 _ rfl] at q1
    injection q1 with q1
    injection q1 with q1
    injection q1 with q1
    subst q1
    simp only[M,eZ]
    exact .inr (.inr ⟨T,tag,me,g,BJ,rfl,rfl,ht,o6,xw,hB.elim (fun hs=>ia t hs (jJ t hl h')) fun cc=>aN cc t (fun _ _ _=>rfl) (fun _ h _=>h) (fun _ h=>h) (jJ t hl h')⟩)
 | .pair a b,m,x,y,cs,cL,ow,cG,n,hl,hB,h,hH,h'=>by
  simp only[M] at h
  rcases h with⟨h,_⟩ |⟨hk,h⟩ |⟨ma,mb,c0,c1,s,rfl,rfl,h0,h1⟩
  ·simp at h
  ·rw[lS _ hk]
   exact ng hk (bR cc _ h)
  ·simp only[eH,Bool.and_eq_true] at hl
   have hBa:py a ma=true∨a6 w' w' B A':=hB.imp (fun h=>by simp only[py,Bool.and_eq_true] at h;exact h.1) id
   have hBb:py b mb=true∨a6 w' w' B A':=hB.imp (fun h=>by simp only[py,Bool.and_eq_true] at h;exact h.2) id
   have WK:=(eS a h0).1
   have hH0:∀ (j:Nat) (u:Value),c0[j]? =some u→H' (n+j)=u:=fun j u hj=>hH j u (by rw[List.getElem?_append_left (List.getElem?_eq_some_iff.1 hj).1];exact hj)
   have hH1:∀ (j:Nat) (u:Value),c1[j]? =some u→H' (n+a.size+j)=u:=fun j u hj=>by
    rw[Nat.add_assoc]
    refine hH (a.size+j) u ?_
    rw[List.getElem?_append_right (by omega),WK,Nat.add_sub_cancel_left]
    exact hj
   simp only[gH,M] at h'
   simp only[M,eZ]
   rcases h' with⟨h',_⟩ |⟨hk,h'⟩ |⟨ma2,mb2,d0,d1,s2,e1,e2,k0,k1⟩
   ·simp at h'
   ·simp only[Md.bQ,Bool.and_eq_true] at hk
    simp only[K] at h'
    obtain⟨d0,d1,e2,k0,k1⟩:=h'
    exact .inr (.inr ⟨ma,mb,c0,c1,fun _=>True,rfl,rfl,tM cc a hl.1 hBa h0 hH0 (ng hk.1 k0),tM cc b hl.2 hBb h1 hH1 (ng hk.2 k1)⟩)
   ·injection e1 with e1 DD
    subst e1 DD
    exact .inr (.inr ⟨ma,mb,c0,c1,s2,rfl,rfl,tM cc a hl.1 hBa h0 hH0 k0,tM cc b hl.2 hBb h1 hH1 k1⟩)
end Go.Pv
namespace Go.Pv
set_option linter.unusedVariables false
set_option linter.unusedSimpArgs false
variable {P:Program} {w w':World} {A A' Wr:Nat→Prop} {H:Nat→Value} {tm o7:Nat→Value} {S S' S1:St} {σ bK du:Nat→Option Nat} {w0:World} {W0 Z:Nat→Prop} {a:Act} {own:Nat→Prop} {v:Value} {Θ:cK} {dst:Option Nat} {O:bE} {hh:Hint} {Γ:Gl}
theorem Fr.trans {W1:Nat→Prop} (h:Fr w0 W0 w) (h1:Fr w W1 w') (hw:∀ g,W1 g→g<w0.heap.size→W0 g):Fr w0 W0 w':=by
 refine⟨h1.os.trans h.os,h1.tape.trans h.tape,h1.output.trans h.output,Nat.le_trans h.size h1.size,fun g hg hn=> ?_⟩
 rw[h1.block g (by have:=h.size;omega) (fun hx=>hn (hw g hx hg))]
 exact h.block g hg hn
theorem MH (hT:cM P hh.bA=true) (hO:nz Γ P O w0 W0) (h:bd σ w0 W0 Z H S a w) {o:Oper} {f:FuncId} {cal:Option Nat} {as:List Operand} {ts:List TypeId} {K:St→Option af} {ret:af} {tO:List Value}
  (aji:(cal=none∧tO=[])∨∃ i,cal=some i∧bM a i=.func (.func f) #[] tO.toArray) (e:gg hh O o f cal as ts S K=some ret):
  GW P f (as.map a.eval++tO) w fun v w'=>∃ S',K S'=some ret∧Rel w0 W0 Z H S' (a.put o.dst v) w'∧((∀ p∈O.sig f,p=.val)→Ext w w'):=by
 unfold gg at e
 split at e
 case h_2=>cases e
 rename_i l S1 hl
 split at e
 case h_2=>cases e
 rename_i args cs CF jS
 obtain⟨bK,ow,τ,t1,t2,t3,t4,t5,t6,t7⟩:=r9 as ts (O.sig f) 0 h hl
 obtain⟨r1,r2⟩:=iO t1 as ts l t4 CF
 -- the captured values
 have WW:cs.length=tO.length∧∀ (j:Nat) (c:TV),cs[j]? =some c→Me c=true∧∃ u,tO[j]? =some u∧Go.Pv.K w (Pk bK S1.length) c.t c.x [u]:=by
  rcases aji with⟨rfl,rfl⟩ |⟨i,rfl,hv⟩
  ·simp only[pw,Option.some.injEq] at jS
   subst jS
   exact⟨rfl,fun j c hj=>by simp at hj⟩
  ·simp only[pw] at jS
   split at jS
   case h_2=>cases jS
   rename_i f' cq dG
   cases hb:Nat.beq f' f with
   |false=>rw[hb] at jS;cases jS
   |true=>
    rw[hb] at jS
    simp only[cond_true] at jS
    have hold:=t1.holds i
    rw[dG] at hold
    obtain⟨vs,v1,v2,v3⟩:=hold
    rw[hv] at v1
    injection v1 with _ _ v1
    have hvs:tO=vs:=by
     have:=congrArg Array.toList v1
     simpa using this
    subst hvs
    split at jS
    case h_2=>cases jS
    rename_i l' Mv
    cases hp:l'.all Me with
    |false=>rw[hp] at jS;cases jS
    |true=>
     rw[hp] at jS
     simp only[cond_true,Option.some.injEq] at jS
     subst jS
     obtain⟨c1,c2⟩:=pM t1 Mv v2 v3
     exact⟨by omega,fun j c hj=>⟨List.all_eq_true.1 hp c (List.mem_of_getElem? hj),c2 j c hj⟩⟩
 -- the callee's arguments
 let sc:Nat→Option Nat:=fun g=>open Classical in if ow g then some (τ g) else none
 have se:∀ g i,sc g=some i↔ow g∧τ g=i:=fun g i=>by
  simp only[sc]
  split
  ·rename_i hx;exact⟨fun hg=>⟨hx,by injection hg⟩,fun hg=>by rw[hg.2]⟩
  ·rename_i hx;exact⟨fun hg=>(by cases hg),fun hg=>absurd hg.1 hx⟩
 have ra:∀ g,WU sc g↔ow g:=fun g=>⟨fun⟨i,hi⟩=>((se g i).1 hi).1,fun hg=>⟨τ g,(se g _).2 ⟨hg,rfl⟩⟩⟩
 have CG:∀ g,ow g→Pk bK S1.length g:=fun g hg=>by rw[t2];exact t3.now g hg
 obtain⟨lT,tP⟩:∃ lT,lT=(cs.isEmpty&&gq S1 as l args):=⟨_,rfl⟩
 let B:Nat→Prop:=fun g=>lT=true∧Av σ Z g∧ ¬ow g
 have KA:a6 w w (Av σ Z) (Av sc B):=⟨fun _ _ _=>rfl,fun g _ hg=>by
  rcases hg with hg |hg
  ·obtain⟨i,_,hi⟩:=t3.GF g ((ra g).1 hg)
   exact .inl ⟨i,hi⟩
  ·exact hg.2.1⟩
 have abf:a6 w w (Av bK Z) (Av sc B):=⟨fun _ _ _=>rfl,fun g hl hg=>t3.Av.2 (KA.wr g hl hg)⟩
 have WX:lT=false→a6 w w (Pk bK S1.length) (Av sc B):=fun hn=>⟨fun _ _ _=>rfl,fun g _ hg=>by
  rcases hg with hg |hg
  ·exact CG g ((ra g).1 hg)
  ·have h1:=hg.1;rw[hn] at h1;cases h1⟩
 have r3:=fun hf:lT=true=>lR t1 as ts l t4 CF (by rw[hf] at tP;exact(Bool.and_eq_true _ _▸tP.symm).2)
 have jc:In Γ B H w sc (args++cs.map .tv) (as.map a.eval++tO):=by
  refine⟨by simp[r1,WW.1],fun g i hg=> ?_,fun g hg=>⟨?_, ?_⟩,fun g o hg=>⟨?_, ?_⟩,fun j r hj=> ?_⟩
  ·obtain⟨q1,q2⟩:=(se g i).1 hg
   have:=(t5 g q1).2
   obtain⟨k,_,hk⟩:=t3.GF g q1
   exact⟨by simp only[List.length_append];omega,h.lt g k hk⟩
  ·cases hc:sc g with
   |none=>rfl
   |some i=>exact absurd ((se g i).1 hc).1 hg.2.2
  ·rcases hg.2.1 with⟨i,hi⟩ |hz
   ·exact h.lt g i hi
   ·have:=(h.old g hz).2;have:=h.fr.size;omega
  ·cases hc:sc g with
   |none=>rfl
   |some i=>
    obtain⟨k,_,hk⟩:=t3.GF g ((se g i).1 hc).1
    obtain⟨e1,e2⟩:=hO.env g o hg
    rcases h.new g k hk with hx |hx
    ·have:=bO e2;omega
    ·exact absurd hx e1
  ·obtain⟨e1,e2⟩:=hO.env g o hg
   rw[h.fr.block g (bO e2) e1,e2]
  ·rcases Nat.lt_or_ge j args.length with pg |pg
   ·rw[List.getElem?_append_left pg] at hj
    rw[List.getElem?_append_left (by simp only[List.length_map];omega),List.getElem?_map]
    rcases r2 j r hj with⟨b,hb,rfl⟩ |⟨x,hx,iN⟩
    ·obtain⟨x,c,q1,q2,q3⟩:=t7 j b hb
     rw[q1]
     exact⟨_,rfl,c,q2,aN KA _ (fun _ _ _=>rfl) (fun g hg _=>(se g j).2 ⟨hg.1,by rw[hg.2];omega⟩) (fun _ h=>h) q3⟩
    ·have fin:∀ {A0:Nat→Prop},a6 w w A0 (Av sc B)→vT w A0 H r (a.eval x) (fun _=>False)→vT w (Av sc B) H r (a.eval x) (fun g=>sc g=some j):=fun cc iN=>by
      cases r with
      |tv b=>
       obtain⟨c,c1,c2⟩:=iN
       exact⟨c,c1,aN cc _ (fun _ _ _=>rfl) (fun _ hg _=>hg.elim) (fun _ h=>h) c2⟩
      |fn f' cq=>
       obtain⟨vs,c1,c2,c3⟩:=iN
       exact⟨vs,c1,c2,fun k c hk=>by obtain⟨u,u1,u2⟩:=c3 k c hk;exact⟨u,u1,bR cc _ u2⟩⟩
     cases xM:lT with
     |false=>
      rw[hx]
      exact⟨_,rfl,fin (WX xM) (iN H)⟩
     |true=>
      rcases r3 xM j r hj with⟨b,hb,rfl⟩ |⟨x',vO,abg⟩
      ·obtain⟨x,c,q1,q2,q3⟩:=t7 j b hb
       rw[q1]
       exact⟨_,rfl,c,q2,aN KA _ (fun _ _ _=>rfl) (fun g hg _=>(se g j).2 ⟨hg.1,by rw[hg.2];omega⟩) (fun _ h=>h) q3⟩
      ·rw[hx] at vO
       injection vO with vO
       subst vO
       rw[hx]
       exact⟨_,rfl,fin abf (abg H)⟩
   ·rw[List.getElem?_append_right pg,List.getElem?_map] at hj
    cases hc:cs[j - args.length]? with
    |none=>rw[hc] at hj;cases hj
    |some c=>
     rw[hc] at hj
     injection hj with hj
     subst hj
     obtain⟨u0,u,u1,u2⟩:=WW.2 _ c hc
     refine⟨u, ?_, ?_⟩
     ·rw[List.getElem?_append_right (by simp only[List.length_map];omega)]
      simpa[r1] using u1
     ·have xM:lT=false:=by
       cases hf:lT with
       |false=>rfl
       |true=>
        rw[hf] at tP
        cases cs with
        |nil=>simp at hc
        |cons _ _=>simp at tP
      have hK:=bR (WX xM) _ u2
      obtain⟨ct,cm,cx⟩:=c
      unfold Me at u0
      split at u0
      ·rename_i t ht
       simp only at ht u0 hK
       subst ht
       exact⟨[u],by simp[an,isAgg],ng u0 hK⟩
      ·cases u0
 refine((hO.sd f).1 _ _ ret w sc _ H B e jc).mono fun v w' hv=> ?_
 obtain⟨rt,sZ,GX⟩:=hv
 split at sZ
 case h_2=>cases sZ
 cases Rb:(rt.res.all (fun d=>fG d.t d.m)||(cs.isEmpty&&gq S1 as l args)) with
 |false=>rw[Rb] at sZ;cases sZ
 |true=>
 rw[Rb] at sZ
 simp only[cond_true] at sZ
 rw[←tP,Bool.or_eq_true] at Rb
 refine⟨_,sZ, ?_,fun fq g hg=>GX.fr.block g hg (fun hx=>t6 fq g ((ra g).1 hx))⟩
 -- behind the call
 obtain⟨dH,vs,q1,q2,q3,q4,_⟩:=GX.res
 let n:=S1.length
 let ph:Nat→Option Nat:=fun g=>match dH g with
  |some i=>some (S1.length+i)
  |none=>open Classical in if ow g then none else bK g
 have BW:∀ g i,ph g=some i→(∃ k,dH g=some k∧i=S1.length+k)∨(dH g=none∧ ¬ow g∧bK g=some i):=fun g i hg=>by
  simp only[ph] at hg
  split at hg
  ·rename_i k hk
   injection hg with hg
   exact .inl ⟨k,hk,hg.symm⟩
  ·rename_i hk
   split at hg
   ·cases hg
   ·exact .inr ⟨hk,by assumption,hg⟩
 have CH:∀ g k,dH g=some k→ph g=some (S1.length+k):=fun g k hk=>by simp only[ph,hk]
 have MI:∀ g i,dH g=none→ ¬ow g→bK g=some i→ph g=some i:=fun g i h1 h2 h3=>by simp only[ph,h1,if_neg h2,h3]
 have rv:∀ g,g<w.heap.size→ ¬ow g→w'.heap[g]? =w.heap[g]? :=fun g hg hn=>GX.fr.block g hg (fun hx=>hn ((ra g).1 hx))
 have zb:∀ g,g<w.heap.size→∀ k,dH g=some k→ow g:=fun g hg k hk=>by
  rcases(q3 g k hk).1 with hx |hx
  ·omega
  ·exact(ra g).1 hx
 have cc:a6 w w' (Av bK Z) (Av ph Z):=⟨fun g hn hg=>rv g hg (fun hx=>hn (by obtain⟨i,_,hi⟩:=CG g hx;exact .inl ⟨i,hi⟩)),fun g hg hx=>by
  rcases hx with⟨i,hx⟩ |hx
  ·rcases BW g i hx with⟨k,hk,_⟩ |⟨_,_,hk⟩
   ·obtain⟨i,_,hi⟩:=CG g (zb g hg k hk)
    exact .inl ⟨i,hi⟩
   ·exact .inl ⟨i,hk⟩
  ·exact .inr hx⟩
 have va:∀ g,ow g→∀ i,bK g=some i→S1.length≤i:=fun g hg i hi=>by
  obtain⟨j,hj,nO⟩:=CG g hg
  rw[hi] at nO
  injection nO with nO
  omega
 have hR:bd ph w0 W0 Z H S1 a w':=by
  refine⟨t1.len,t1.defers,t1.fr.trans GX.fr (fun g hg hl=> ?_),fun g i hg=> ?_,fun g i hg=> ?_,fun g hg=>⟨?_,(t1.old g hg).2⟩,fun i=> ?_⟩
  ·obtain⟨i,_,hi⟩:=CG g ((ra g).1 hg)
   rcases t1.new g i hi with hx |hx
   ·omega
   ·exact hx
  ·rcases BW g i hg with⟨k,hk,_⟩ |⟨_,_,hk⟩
   ·rcases(q3 g k hk).1 with hx |hx
    ·have:=t1.fr.size;exact .inl (by omega)
    ·obtain⟨i,_,hi⟩:=CG g ((ra g).1 hx)
     exact t1.new g i hi
   ·exact t1.new g i hk
  ·rcases BW g i hg with⟨k,hk,_⟩ |⟨_,_,hk⟩
   ·exact(q3 g k hk).2
   ·have:=t1.lt g i hk;have:=GX.fr.size;omega
  ·obtain⟨z1,z2⟩:=t1.old g hg
   have q9: ¬ow g:=fun hx=>by obtain⟨i,_,hi⟩:=CG g hx;rw[z1] at hi;cases hi
   have:dH g=none:=by
    cases hk:dH g with
    |none=>rfl
    |some k=>exact absurd (zb g (by have:=t1.fr.size;omega) k hk) q9
   simp only[ph,this,if_neg q9,z1]
  ·by_cases BL:i<S1.length
   ·refine(t1.holds i).kept cc (fun g hg hl=> ?_) (fun s hs=> ?_)
    ·have q9: ¬ow g:=fun hx=>by have:=va g hx i hg;omega
     refine⟨rv g hl q9,MI g i ?_ q9 hg⟩
     cases hk:dH g with
     |none=>rfl
     |some k=>exact absurd (zb g hl k hk) q9
    ·by_cases BH:s<S1.length
     ·exact⟨fun _ _ h=>h,rfl,_,t1.holds s,fun g hg hl=>rv g hl (fun hx=>by have:=va g hx s hg;omega)⟩
     ·have hd:S1.at s=.dead:=Classical.byContradiction fun hx=>BH (dQ hx)
      exact⟨fun _ _ h=>h,rfl,fun _=>False,by rw[hd];trivial,fun _ h=>h.elim⟩
   ·have hd:S1.at i=.dead:=Classical.byContradiction fun hx=>BL (dQ hx)
    rw[hd]
    trivial
 refine⟨_,hR.Mz (ow:=fun g=>∃ k,dH g=some k) (Nat.le_refl _) (fun _ _ _=>rfl) hR.fr (fun g ⟨k,hk⟩=>⟨(q3 g k hk).2,.inl ⟨S1.length+k,by omega,CH g k hk⟩⟩) fun d _ g1 g2=> ?_⟩
 -- the results
 have abh:lT=true→a6 w' w' (Av dH B) (Av (fg ph o.dst fun g=>∃ k,dH g=some k) Z):=fun xM=>⟨fun _ _ _=>rfl,fun g _ hg=>by
  rcases g2 g hg with (⟨i,hi⟩ |hz) |hx
  ·rcases BW g i hi with⟨k,hk,_⟩ |⟨_,q9,hk⟩
   ·exact .inl ⟨k,hk⟩
   ·exact .inr ⟨xM,t3.Av.1 (.inl ⟨i,hk⟩),q9⟩
  ·refine .inr ⟨xM,.inr hz,fun hx=> ?_⟩
   obtain⟨i,_,hi⟩:=CG g hx
   rw[(t1.old g hz).1] at hi
   cases hi
  ·exact .inl hx⟩
 have yW:∀ (i:Nat) (b:TV),rt.res[i]? =some b→∃ u cs,vs[i]? =some u∧an b.t u cs∧M w' (Av (fg ph o.dst fun g=>∃ k,dH g=some k) Z) H b.t b.m b.x cs (fun g=>dH g=some i) []:=fun i b hb=>by
  obtain⟨u,c,u1,u2,u3⟩:=q4 i b hb
  refine⟨u,c,u1,u2, ?_⟩
  rcases Rb with hs |xM
  ·exact ia _ (List.all_eq_true.1 hs b (List.mem_of_getElem? hb)) u3
  ·exact aN (abh xM) _ (fun _ _ _=>rfl) (fun _ h _=>h) (fun _ h=>h) u3
 have Rc:∀ l:List TV,l=rt.res→Holds w' (Av (fg ph o.dst fun g=>∃ k,dH g=some k) Z) H (bM (a.put o.dst v)) (S1.put o.dst (.qZ (l.map some))) (fun g=>fg ph o.dst (fun g=>∃ k,dH g=some k) g=some d) (.qZ (l.map some)) (.tuple vs.toArray):=fun l hl=>by
  subst hl
  refine⟨vs,fun g=>(dH g).getD 0,rfl,by simp[q2],fun j b hj=> ?_⟩
  rw[List.getElem?_map] at hj
  cases hb:rt.res[j]? with
  |none=>rw[hb] at hj;cases hj
  |some b'=>
   rw[hb] at hj
   simp only[Option.map_some,Option.some.injEq] at hj
   subst hj
   obtain⟨u,c,u1,u2,u3⟩:=yW j b' hb
   exact⟨u,c,u1,u2,aN (a6.refl _ _) _ (fun _ _ _=>rfl) (fun g hg _=>⟨g1 g ⟨j,hg⟩,by show(dH g).getD 0=j;rw[hg];rfl⟩) (fun _ h=>h) u3⟩
 subst q1
 match zd:rt.res,q2 with
 |[b],q2=>
  match vs,q2 with
  |[u],_=>
   obtain⟨u',c,u1,u2,u3⟩:=yW 0 b (by rw[zd];rfl)
   simp only[List.getElem?_cons_zero,Option.some.injEq] at u1
   subst u1
   exact⟨c,u2,aN (a6.refl _ _) _ (fun _ _ _=>rfl) (fun g hg _=>g1 g ⟨0,hg⟩) (fun _ h=>h) u3⟩
 |[],q2=>
  match vs,q2 with
  |[],_=>exact Rc [] zd.symm
 |b::b'::r,q2=>
  match vs,q2 with
  |u::u'::vr,_=>exact Rc (b::b'::r) zd.symm
end Go.Pv
namespace Go.Pv
set_option linter.unusedVariables false
set_option linter.unusedSimpArgs false
variable {P:Program} {w w':World} {A A' Wr:Nat→Prop} {H H':Nat→Value} {tm o7:Nat→Value} {S S' S1:St} {σ bK du:Nat→Option Nat} {w0:World} {W0 Z:Nat→Prop} {a:Act} {own:Nat→Prop} {v:Value} {Θ:cK} {dst:Option Nat} {O:bE} {hh:Hint} {Γ:Gl}
theorem ry (cur:List Value) (off n:Nat) (h:off+n≤cur.length):putCells cur off ((cur.drop off).take n)=cur:=by
 have hl:((cur.drop off).take n).length=n:=by rw[List.length_take,List.length_drop];omega
 apply List.ext_getElem?
 intro k
 rw[nU _ _ _ _ (by omega),hl]
 by_cases h1:k<off
 ·rw[if_pos h1]
 ·rw[if_neg h1]
  by_cases h2:k<off+n
  ·rw[if_pos h2,List.getElem?_take,if_pos (by omega),List.getElem?_drop]
   congr 1;omega
  ·rw[if_neg h2]
theorem KB {ow:Nat→Prop} {sc dH:Nat→Option Nat} (t1:bd bK w0 W0 Z H S1 a w) (CG:∀ g,ow g→Pk bK S1.length g) (ra:∀ g,WU sc g↔ow g) (qH:Fr w (WU sc) w')
  (q3:∀ g i,dH g=some i→(w.heap.size≤g∨WU sc g)∧g<w'.heap.size):
  ∃ ph,bd ph w0 W0 Z H S1 a w'∧(∀ g k,dH g=some k→ph g=some (S1.length+k))∧a6 w w' (Av bK Z) (Av ph Z)∧
   (∀ g i,i<S1.length→ph g=some i→bK g=some i)∧(∀ g i,i<S1.length→bK g=some i→w'.heap[g]? =w.heap[g]?)∧(∀ g i,ph g=some i→(∃ k,dH g=some k)∨(¬ow g∧bK g=some i)):=by
 let ph:Nat→Option Nat:=fun g=>match dH g with
  |some i=>some (S1.length+i)
  |none=>open Classical in if ow g then none else bK g
 have BW:∀ g i,ph g=some i→(∃ k,dH g=some k∧i=S1.length+k)∨(dH g=none∧ ¬ow g∧bK g=some i):=fun g i hg=>by
  simp only[ph] at hg
  split at hg
  ·rename_i k hk
   injection hg with hg
   exact .inl ⟨k,hk,hg.symm⟩
  ·rename_i hk
   split at hg
   ·cases hg
   ·exact .inr ⟨hk,by assumption,hg⟩
 have CH:∀ g k,dH g=some k→ph g=some (S1.length+k):=fun g k hk=>by simp only[ph,hk]
 have MI:∀ g i,dH g=none→ ¬ow g→bK g=some i→ph g=some i:=fun g i h1 h2 h3=>by simp only[ph,h1,if_neg h2,h3]
 have rv:∀ g,g<w.heap.size→ ¬ow g→w'.heap[g]? =w.heap[g]? :=fun g hg hn=>qH.block g hg (fun hx=>hn ((ra g).1 hx))
 have zb:∀ g,g<w.heap.size→∀ k,dH g=some k→ow g:=fun g hg k hk=>by
  rcases(q3 g k hk).1 with hx |hx
  ·omega
  ·exact(ra g).1 hx
 have cc:a6 w w' (Av bK Z) (Av ph Z):=⟨fun g hn hg=>rv g hg (fun hx=>hn (by obtain⟨i,_,hi⟩:=CG g hx;exact .inl ⟨i,hi⟩)),fun g hg hx=>by
  rcases hx with⟨i,hx⟩ |hx
  ·rcases BW g i hx with⟨k,hk,_⟩ |⟨_,_,hk⟩
   ·obtain⟨i,_,hi⟩:=CG g (zb g hg k hk)
    exact .inl ⟨i,hi⟩
   ·exact .inl ⟨i,hk⟩
  ·exact .inr hx⟩
 have va:∀ g,ow g→∀ i,bK g=some i→S1.length≤i:=fun g hg i hi=>by
  obtain⟨j,hj,nO⟩:=CG g hg
  rw[hi] at nO
  injection nO with nO
  omega
 refine⟨ph, ?_,CH,cc,fun g i hi hg=> ?_,fun g i hi hg=>rv g (t1.lt g i hg) (fun hx=>by have:=va g hx i hg;omega),fun g i hg=>by
  rcases BW g i hg with⟨k,hk,_⟩ |⟨_,h1,h2⟩
  ·exact .inl ⟨k,hk⟩
  ·exact .inr ⟨h1,h2⟩⟩
 rotate_left
 ·rcases BW g i hg with⟨k,_,hk⟩ |⟨_,_,hk⟩
  ·omega
  ·exact hk
 refine⟨t1.len,t1.defers,t1.fr.trans qH (fun g hg hl=> ?_),fun g i hg=> ?_,fun g i hg=> ?_,fun g hg=>⟨?_,(t1.old g hg).2⟩,fun i=> ?_⟩
 ·obtain⟨i,_,hi⟩:=CG g ((ra g).1 hg)
  rcases t1.new g i hi with hx |hx
  ·omega
  ·exact hx
 ·rcases BW g i hg with⟨k,hk,_⟩ |⟨_,_,hk⟩
  ·rcases(q3 g k hk).1 with hx |hx
   ·have:=t1.fr.size;exact .inl (by omega)
   ·obtain⟨i,_,hi⟩:=CG g ((ra g).1 hx)
    exact t1.new g i hi
  ·exact t1.new g i hk
 ·rcases BW g i hg with⟨k,hk,_⟩ |⟨_,_,hk⟩
  ·exact(q3 g k hk).2
  ·have:=t1.lt g i hk;have:=qH.size;omega
 ·obtain⟨z1,z2⟩:=t1.old g hg
  have q9: ¬ow g:=fun hx=>by obtain⟨i,_,hi⟩:=CG g hx;rw[z1] at hi;cases hi
  have:dH g=none:=by
   cases hk:dH g with
   |none=>rfl
   |some k=>exact absurd (zb g (by have:=t1.fr.size;omega) k hk) q9
  simp only[ph,this,if_neg q9,z1]
 ·by_cases BL:i<S1.length
  ·refine(t1.holds i).kept cc (fun g hg hl=> ?_) (fun s hs=> ?_)
   ·have q9: ¬ow g:=fun hx=>by have:=va g hx i hg;omega
    refine⟨rv g hl q9,MI g i ?_ q9 hg⟩
    cases hk:dH g with
    |none=>rfl
    |some k=>exact absurd (zb g hl k hk) q9
   ·by_cases BH:s<S1.length
    ·exact⟨fun _ _ h=>h,rfl,_,t1.holds s,fun g hg hl=>rv g hl (fun hx=>by have:=va g hx s hg;omega)⟩
    ·have hd:S1.at s=.dead:=Classical.byContradiction fun hx=>BH (dQ hx)
     exact⟨fun _ _ h=>h,rfl,fun _=>False,by rw[hd];trivial,fun _ h=>h.elim⟩
  ·have hd:S1.at i=.dead:=Classical.byContradiction fun hx=>BL (dQ hx)
   rw[hd]
   trivial
theorem KC (h:bd σ w0 W0 Z H S a w) {T:TypeId} {x:Operand} {av:AV} {b:TV} {s:Nat} {p:Path} {cs:List Value} (ho:S.dn Θ T x=some av) (hl:iH x av=some (s,p)) (e:S.db x av=some (b,S1)) (hk:b.m.bQ=false) (hm:an b.t (a.eval x) cs):
  (p=[]∧s<S.length∧an b.t (bM a s) cs)∨∃ r ex bY,p≠[]∧S1.at s=.v r (ex++[p])∧an r.t (bM a s) bY∧aJ w p r.t bY=some cs∧valid p r.t r.x∧a8 p r.t r.m r.x=some b∧∀ q∈ex,c7 q p=false:=by
 have hh:=bC h ho
 cases av with
 |v a0 ex=>
  cases x with
  |tmp i=>
   simp only[iH,Option.some.injEq,Prod.mk.injEq] at hl
   obtain⟨rfl,rfl⟩:=hl
   exact .inl ⟨rfl,dQ (by simp only[St.dn,Option.some.injEq] at ho;rw[ho];exact fun e=>by cases e),hm⟩
  |const c=>simp[iH] at hl
  |func f=>simp[iH] at hl
  |global g=>simp[iH] at hl
 |al t s' p'=>
  simp only[iH,Option.some.injEq,Prod.mk.injEq] at hl
  obtain⟨rfl,rfl⟩:=hl
  obtain⟨r,bY,cs1,hr,hc,Ym⟩:=hh
  simp only[St.db] at e
  split at e
  case h_2=>cases e
  rename_i b' hb
  cases fA:b'.m.bQ with
  |true=>
   rw[fA] at e
   simp only[cond_true,Option.some.injEq,Prod.mk.injEq] at e
   obtain⟨rfl,rfl⟩:=e
   rw[hk] at fA;cases fA
  |false=>
   rw[fA] at e
   simp only[cond_false] at e
   have P1:=cP h hr hc hb
   obtain⟨s7,_⟩:=P1
   cases hp:p' with
   |nil=>
    subst hp
    simp only[Option.some.injEq,Prod.mk.injEq] at e
    obtain⟨rfl,rfl⟩:=e
    simp only[aJ,Option.some.injEq] at hc
    subst hc
    obtain⟨b2,g1,g2⟩:=hr.get
    simp only[a8,Option.some.injEq] at g1
    subst g1
    have sZ:r.t=b'.t:=by rw[s7];exact g2
    refine .inl ⟨rfl,dQ (by obtain⟨Ku,QI,_⟩:=hr.at_;rw[QI];exact fun e=>by cases e), ?_⟩
    rw[s7] at hm ⊢
    obtain rfl:=cC hm Ym
    have:=hr.J5
    rw[sZ,s7] at this
    exact this
   |cons Dz pp=>
    rw[hp] at e
    obtain⟨ex,b2,cL,ow0,j1,j2,j3,j4,hM,j5,j6,j7⟩:=fm h hr
    rw[j1] at e
    simp only[Option.some.injEq,Prod.mk.injEq] at e
    rw[←hp] at e
    obtain⟨rfl,rfl⟩:=e
    obtain⟨r3,ex3,q1,q2,q3⟩:=oa hb
    rw[j1] at q1
    injection q1 with q1 yM
    subst q1 yM
    rw[j3] at q3
    injection q3 with q3
    subst q3
    rw[s7] at hm
    obtain rfl:=cC hm Ym
    have hlen:((S.weaken s').cover s' p').length=S.length:=by simp[St.weaken,St.cover]
    have BH:s'<S.length:=dQ (by rw[j1];exact fun e=>by cases e)
    have u7:St.at (((S.weaken s').cover s' p').set s' (.v r (ex++[p']))) s'=.v r (ex++[p']):=by rw[cr,if_pos ⟨rfl,by rw[hlen];exact BH⟩]
    exact .inr ⟨r,ex,bY,by simp,by rw[←hp];exact u7,hr.J5,by rw[←hp];exact hc,by rw[←hp];exact hr.val,by rw[←hp];exact j3,by rw[←hp];exact q2⟩
 |_=>simp[iH] at hl
theorem vU {b:TV} {s:Nat} {p:Path} {r:TV} {ex:List Path} {bY cs:List Value} {nu:Nat→Prop} {b0:TV} {m:Md} {z:r.t.I} (h:bd σ w0 W0 Z H S a w) (nt:∀ g,nu g→∃ i,S.length≤i∧σ g=some i)
  (dG:S.at s=.v r (ex++[p])) (BX:an r.t (bM a s) bY) (hc:aJ w p r.t bY=some cs) (gY:valid p r.t r.x) (eY:a8 p r.t r.m r.x=some b0) (l9:∀ q∈ex,c7 q p=false)
  (mP:fD b p r.t r.m r.x=some (m,z)) (hM:M w (Av σ Z) H b.t b.m b.x cs nu []):∃ du,bd du w0 W0 Z H (S.put (some s) (.v ⟨r.t,m,z⟩ ex)) a w∧(∀ g i,S.length≤i→ ¬nu g→σ g=some i→du g=some i)∧∀ g i,du g=some i→nu g∨σ g=some i:=by
 have hh:=h.holds s
 rw[dG] at hh
 obtain⟨agB,WN,JX⟩:=hh
 obtain rfl:=cC BX WN
 have tI:open_ p (ex++[p]):=by
  intro q hq s' r' e
  rcases List.mem_append.1 hq with hq |hq
  ·exact rn l9 q hq s' r' e
  ·rw[List.mem_singleton.1 hq] at e
   have:=congrArg List.length e
   simp at this
 obtain⟨cL,cG,c1,c2,c3,jo⟩:=uL p JX tI gY eY
 rw[hc] at c1
 injection c1 with c1
 subst c1
 have eQ:b.t=b0.t:=qL p mP eY
 obtain⟨nW,jo⟩:=jo b (m,z) eQ mP
 have hlen:cs.length=b.t.size:=(eS _ hM).1
 let du:Nat→Option Nat:=fun g'=>open Classical in if nu g' then some s else σ g'
 have DG:∀ g' i,du g'=some i→(nu g'∧i=s)∨(¬nu g'∧σ g'=some i):=fun g' i bX=>by
  simp only[du] at bX
  split at bX
  ·injection bX with bX;exact .inl ⟨by assumption,bX.symm⟩
  ·exact .inr ⟨by assumption,bX⟩
 have CB:∀ g' i, ¬nu g'→σ g'=some i→du g'=some i:=fun g' i hn bX=>by simp only[du,if_neg hn,bX]
 have BH:s<S.length:=dQ (by rw[dG];exact fun e=>by cases e)
 have WQ:∀ g',Av du Z g'→Av σ Z g':=fun g' bX=>by
  rcases bX with⟨i,bX⟩ |bX
  ·rcases DG g' i bX with⟨hx,_⟩ |⟨_,hx⟩
   ·obtain⟨j,_,hj⟩:=nt g' hx
    exact .inl ⟨j,hj⟩
   ·exact .inl ⟨i,hx⟩
  ·exact .inr bX
 have q9:∀ g i,i<S.length→σ g=some i→ ¬nu g:=fun g i hi hg hx=>by
  obtain⟨j,hj,nO⟩:=nt g hx
  rw[hg] at nO
  injection nO with nO
  omega
 have cc:a6 w w (Av σ Z) (Av du Z):=⟨fun _ _ _=>rfl,fun g _ hg=>WQ g hg⟩
 have WK:bY.length=r.t.size:=(eS _ JX).1
 have yW:=jo w (Av du Z) cs nu ex cc (by rw[hlen,eQ]) (fun g dZ o6 _=>by
   unfold jG
   split
   ·rename_i q hq
    split
    ·rename_i hgq
     obtain⟨_,_,cur,T,hw,hb,jS⟩:=nW q.1 q.2 hq
     subst hgq
     refine⟨cur,T,hw, ?_⟩
     rw[jS,ry _ _ _ (by simpa using hb)]
     simpa using hw
    ·rfl
   ·rfl) (aN cc _ (fun _ _ _=>rfl) (fun g hg _=>hg) (fun _ hx=>by cases hx) hM) (fun g dZ _ o6=>absurd dZ (q9 g s BH o6)) (fun q Yh Ci=>by
   rcases List.mem_append.1 Ci with Ci |Ci
   ·exact Ci
   ·exact absurd (by rw[List.mem_singleton.1 Ci];simp) (Yh []))
 have ajj:nV p r.t bY cs=bY:=by
  cases hp:aK p with
  |false=>exact iE p hp
  |true=>
   have h1:=dp (w:=w) p hp eY WK
   rw[hc] at h1
   injection h1 with h1
   rw[jn p hp eY WK (by rw[hlen,eQ]),h1]
   exact ry _ _ _ (by rw[WK];exact cT p hp eY)
 rw[ajj] at yW
 refine⟨du, ?_,fun g i _ hn hg=>CB g i hn hg,fun g i hg=>(DG g i hg).imp (·.1) (·.2)⟩
 have:=h.put (dst:=some s) (av:=.v ⟨r.t,m,z⟩ ex) (v:=bM a s) cc h.fr (fun g i hg=> ?_) (fun g hg=> ?_) (fun i g hi hd hg=>⟨rfl,CB g i (q9 g i hi hg) hg⟩) (fun d hd hdl _=> ?_)
 ·rw[jt] at this
  exact this
 ·rcases DG g i hg with⟨hx,_⟩ |⟨_,hx⟩
  ·obtain⟨j,_,hj⟩:=nt g hx
   exact⟨h.new g j hj,h.lt g j hj⟩
  ·exact⟨h.new g i hx,h.lt g i hx⟩
 ·have h0:=(h.old g hg).1
  simp only[du]
  split
  ·rename_i hx
   obtain⟨j,_,hj⟩:=nt g hx
   rw[h0] at hj;cases hj
  ·exact h0
 ·injection hd with hd
  subst hd
  refine⟨bY,BX,aN (a6.refl _ _) _ (fun _ _ _=>rfl) (fun g hg _=> ?_) (fun _ h=>h) yW⟩
  rcases hg with⟨k1,_⟩ |k1
  ·exact CB g s (q9 g s BH k1) k1
  ·simp only[du,if_pos k1]
theorem GY {b:TV} {s:Nat} {cs:List Value} {nu:Nat→Prop} (h:bd σ w0 W0 Z H S a w) (nt:∀ g,nu g→∃ i,S.length≤i∧σ g=some i)
  (hs:s<S.length) (BX:an b.t (bM a s) cs) (hM:M w (Av σ Z) H b.t b.m b.x cs nu []):∃ du,bd du w0 W0 Z H (S.put (some s) (.v b [])) a w∧(∀ g i,S.length≤i→ ¬nu g→σ g=some i→du g=some i)∧∀ g i,du g=some i→nu g∨σ g=some i:=by
 refine⟨fg σ (some s) nu, ?_,fun g i hi hn hg=>by
  unfold fg
  rw[if_neg hn]
  exact kg (fun e=>by injection e with e;omega) hg,fun g i hg=>by
  unfold fg at hg
  split at hg
  ·rename_i hx;exact .inl hx
  ·exact .inr (dO hg).1⟩
 have:=h.GG (dst:=some s) (v:=bM a s) (ow:=nu) (A':=Av σ Z) (fun _ _=>rfl) h.fr (fun g hg=>by
  obtain⟨i,hi,lP⟩:=nt g hg
  exact⟨h.lt g i lP,.inl ⟨i,hi,lP⟩⟩) (fun g _ hg=>by
  rcases hg with hg |hg
  ·exact hg
  ·obtain⟨i,hi,lP⟩:=nt g hg
   exact .inl ⟨i,lP⟩) BX hM
 rw[jt] at this
 exact this
theorem Rd {S S2:St} {s:Nat} (h0:bd σ w0 W0 Z H S a w) (h:bd bK w0 W0 Z H S2 a w'):bd bK w0 W0 Z H (S.again S2 s) a w':=by
 have hl:S2.length=S.length:=by have:=h0.len;have:=h.len;omega
 have hlen:(S.again S2 s).length=S2.length:=by
  unfold St.again
  split
  ·rw[List.length_zipWith];omega
  ·rfl
 have hv:∀ k r ex,S2.at k=.v r ex→(S.again S2 s).at k=.v r ex:=fun k r ex he=>by
  rcases again_at (s:=s) hl k with hx |⟨_,_,_,_,_,_,hx,_⟩
  ·rw[hx,he]
  ·rw[he] at hx;cases hx
 refine⟨by rw[hlen];exact h.len,h.defers,h.fr,h.new,h.lt,h.old,fun i=> ?_⟩
 rcases again_at (s:=s) hl i with hx |⟨t,r,ex,ha,hs,ht,hb,hx⟩
 ·rw[hx]
  exact(h.holds i).kept (a6.refl _ _) (fun g hg _=>⟨rfl,hg⟩) (fun k _=>⟨fun r ex he=>hv k r ex he,rfl,_,h.holds k,fun _ _ _=>rfl⟩)
 ·rw[hx]
  have h1:=h0.holds i
  rw[ha] at h1
  obtain⟨r0,bY,cs,hr,hc,hm⟩:=h1
  have h2:=h.holds s
  rw[hs] at h2
  obtain⟨QJ,PW,hM2⟩:=h2
  obtain⟨Ku,g1,g2⟩:=hr.at_
  obtain⟨c,c1,c2⟩:=hr.get
  have e0:r0.t=t:=by
   simp only[a8,Option.some.injEq] at c1
   rw[←c1] at c2
   exact c2
  have e1:bY=cs:=by simpa only[aJ,Option.some.injEq] using hc
  have BX:=hr.J5
  rw[e0,ht] at BX
  have e2:=cC PW BX
  refine⟨r,QJ,QJ,⟨⟨ex,hv s r ex hs,fun q _ s r e=>by cases q<;>simp at e⟩,trivial,⟨_,rfl,ht.symm⟩,PW⟩,rfl, ?_⟩
  rw[e2,e1]
  exact hm
theorem WY (hT:cM P hh.bA=true) (hO:nz Γ P O w0 W0) (h:bd σ w0 W0 Z H S a w) {o:Oper} {f:FuncId} {j:Nat} {as:List Operand} {ts:List TypeId} {K:St→Option af} {ret:af}
  (e:pz hh O o f j as ts S K=some ret):GW P f (as.map a.eval) w fun v w'=>∃ S',K S'=some ret∧Rel w0 W0 Z H S' (a.put o.dst v) w':=by
 unfold pz at e
 split at e
 case h_2=>cases e
 rename_i x T hx WC
 split at e
 case h_2=>cases e
 rename_i av dh
 split at e
 case h_2=>cases e
 rename_i s p b S1 hlp Gi
 cases MJ:(!b.m.bQ&&eH b.t b.m) with
 |false=>rw[MJ] at e;cases e
 |true=>
 rw[MJ] at e
 simp only[cond_true] at e
 simp only[Bool.and_eq_true,Bool.not_eq_true'] at MJ
 obtain⟨hk,hlb⟩:=MJ
 split at e
 case h_2=>cases e
 rename_i args CF
 obtain⟨lT,tP⟩:∃ lT,lT=gq S1 as ((List.replicate as.length none).set j (some ⟨b.t,gH b.t b.m 0,b.x⟩)) args:=⟨_,rfl⟩
 cases hls:(py b.t b.m||gq S1 as ((List.replicate as.length none).set j (some ⟨b.t,gH b.t b.m 0,b.x⟩)) args) with
 |false=>rw[hls] at e;cases e
 |true=>
 rw[hls] at e
 simp only[cond_true] at e
 rw[←tP,Bool.or_eq_true] at hls
 obtain⟨bK,cs,ow,t1,hm,hM,t3,t2⟩:=ef h dh Gi
 have abi:=KC h dh hlp Gi hk hm
 have pg:j<as.length:=(List.getElem?_eq_some_iff.1 hx).1
 obtain⟨r1,r2⟩:=iO t1 as ts _ (by simp) CF
 let H':Nat→Value:=fun n=>cs.getD n undef
 have hH':∀ (j:Nat) (u:Value),cs[j]? =some u→H' (0+j)=u:=fun j u hj=>by
  simp only[H',Nat.zero_add,List.getD_eq_getElem?_getD,hj,Option.getD_some]
 have hMt:=Ra (H':=H') (n:=0) b.t hlb hM hH'
 let sc:Nat→Option Nat:=fun g=>open Classical in if ow g then some j else none
 have se:∀ g i,sc g=some i↔ow g∧j=i:=fun g i=>by
  simp only[sc]
  split
  ·rename_i hx;exact⟨fun hg=>⟨hx,by injection hg⟩,fun hg=>by rw[hg.2]⟩
  ·rename_i hx;exact⟨fun hg=>(by cases hg),fun hg=>absurd hg.1 hx⟩
 have ra:∀ g,WU sc g↔ow g:=fun g=>⟨fun⟨i,hi⟩=>((se g i).1 hi).1,fun hg=>⟨j,(se g _).2 ⟨hg,rfl⟩⟩⟩
 have CG:∀ g,ow g→Pk bK S1.length g:=fun g hg=>by rw[t2];exact t3.now g hg
 let B:Nat→Prop:=fun g=>lT=true∧Av σ Z g∧ ¬ow g
 have KA:a6 w w (Av σ Z) (Av sc B):=⟨fun _ _ _=>rfl,fun g _ hg=>by
  rcases hg with hg |hg
  ·obtain⟨i,_,hi⟩:=t3.GF g ((ra g).1 hg)
   exact .inl ⟨i,hi⟩
  ·exact hg.2.1⟩
 have abf:a6 w w (Av bK Z) (Av sc B):=⟨fun _ _ _=>rfl,fun g hl hg=>t3.Av.2 (KA.wr g hl hg)⟩
 have WX:lT=false→a6 w w (Pk bK S1.length) (Av sc B):=fun hn=>⟨fun _ _ _=>rfl,fun g _ hg=>by
  rcases hg with hg |hg
  ·exact CG g ((ra g).1 hg)
  ·have h1:=hg.1;rw[hn] at h1;cases h1⟩
 have r3:=fun hf:lT=true=>lR t1 as ts _ (by simp) CF (tP.symm.trans hf)
 have jc:In Γ B H' w sc args (as.map a.eval):=by
  refine⟨by simp[r1],fun g i hg=> ?_,fun g hg=>⟨?_, ?_⟩,fun g o hg=>⟨?_, ?_⟩,fun k r fA=> ?_⟩
  ·obtain⟨q1,q2⟩:=(se g i).1 hg
   obtain⟨k,_,hk⟩:=t3.GF g q1
   exact⟨by omega,h.lt g k hk⟩
  ·cases hc:sc g with
   |none=>rfl
   |some i=>exact absurd ((se g i).1 hc).1 hg.2.2
  ·rcases hg.2.1 with⟨i,hi⟩ |hz
   ·exact h.lt g i hi
   ·have:=(h.old g hz).2;have:=h.fr.size;omega
  ·cases hc:sc g with
   |none=>rfl
   |some i=>
    obtain⟨k,_,hk⟩:=t3.GF g ((se g i).1 hc).1
    obtain⟨e1,e2⟩:=hO.env g o hg
    rcases h.new g k hk with hx |hx
    ·have:=bO e2;omega
    ·exact absurd hx e1
  ·obtain⟨e1,e2⟩:=hO.env g o hg
   rw[h.fr.block g (bO e2) e1,e2]
  ·rw[List.getElem?_map]
   rcases r2 k r fA with⟨b',BV,rfl⟩ |⟨x',vO,iN⟩
   ·rw[List.getElem?_set] at BV
    split at BV
    ·rename_i DM
     subst DM
     simp only[List.length_replicate,if_pos pg,Option.some.injEq] at BV
     subst BV
     rw[hx]
     exact⟨_,rfl,cs,hm,aN KA _ (fun _ _ _=>rfl) (fun g hg _=>(se g j).2 ⟨hg,rfl⟩) (fun _ h=>h) hMt⟩
    ·rw[List.getElem?_replicate] at BV
     split at BV<;>simp at BV
   ·have fin:∀ {A0:Nat→Prop},a6 w w A0 (Av sc B)→vT w A0 H' r (a.eval x') (fun _=>False)→vT w (Av sc B) H' r (a.eval x') (fun g=>sc g=some k):=fun cc iN=>by
     cases r with
     |tv b=>
      obtain⟨c,c1,c2⟩:=iN
      exact⟨c,c1,aN cc _ (fun _ _ _=>rfl) (fun _ hg _=>hg.elim) (fun _ h=>h) c2⟩
     |fn f' cq=>
      obtain⟨vs,c1,c2,c3⟩:=iN
      exact⟨vs,c1,c2,fun k c hk=>by obtain⟨u,u1,u2⟩:=c3 k c hk;exact⟨u,u1,bR cc _ u2⟩⟩
    cases xM:lT with
    |false=>
     rw[vO]
     exact⟨_,rfl,fin (WX xM) (iN H')⟩
    |true=>
     rcases r3 xM k r fA with⟨b',BV,rfl⟩ |⟨x2,nf,abg⟩
     ·rw[List.getElem?_set] at BV
      split at BV
      ·rename_i DM
       subst DM
       simp only[List.length_replicate,if_pos pg,Option.some.injEq] at BV
       subst BV
       rw[hx]
       exact⟨_,rfl,cs,hm,aN KA _ (fun _ _ _=>rfl) (fun g hg _=>(se g j).2 ⟨hg,rfl⟩) (fun _ h=>h) hMt⟩
      ·rw[List.getElem?_replicate] at BV
       split at BV<;>simp at BV
     ·rw[vO] at nf
      injection nf with nf
      subst nf
      rw[vO]
      exact⟨_,rfl,fin abf (abg H')⟩
 refine((hO.sd f).1 _ _ ret w sc _ H' B e jc).mono fun v w' hv=> ?_
 obtain⟨rt,sZ,GX⟩:=hv
 split at sZ
 case h_2=>cases sZ
 rename_i c hrefs
 rw[←tP] at sZ
 cases fq:rt.res.all (fun d=>oT d.m&&(fG d.t d.m||lT)) with
 |false=>rw[fq] at sZ;cases sZ
 |true=>
 rw[fq] at sZ
 simp only[cond_true] at sZ
 split at sZ
 case isFalse=>cases sZ
 rename_i Wg
 split at sZ
 case isFalse=>cases sZ
 rename_i hcm
 split at sZ
 case h_2=>cases sZ
 rename_i S2 Pg
 obtain⟨dH,vs,q1,q2,q3,q4,q5⟩:=GX.res
 obtain⟨cL,hMc⟩:=q5 c hrefs
 obtain⟨ph,hR,CH,cc,MI,pq,Yn⟩:=KB t1 CG ra GX.fr q3
 -- what comes back
 obtain⟨ct,cm,cx⟩:=c
 simp only at Wg hcm hMc Pg
 subst Wg
 subst hcm
 have abc:a6 w w' (Av σ Z) (Av ph Z):=⟨fun g hn hl=>cc.same g (fun hx=>hn (t3.Av.1 hx)) hl,fun g hl hg=>t3.Av.1 (cc.wr g hl hg)⟩
 have abh:py b.t b.m=true∨a6 w' w' (Av dH B) (Av ph Z):=hls.imp id fun xM=>⟨fun _ _ _=>rfl,fun g _ hg=>by
  rcases hg with⟨i,hi⟩ |hz
  ·rcases Yn g i hi with⟨k,hk⟩ |⟨q9,hk⟩
   ·exact .inl ⟨k,hk⟩
   ·exact .inr ⟨xM,t3.Av.1 (.inl ⟨i,hk⟩),q9⟩
  ·refine .inr ⟨xM,.inr hz,fun hx=> ?_⟩
   obtain⟨i,_,hi⟩:=CG g hx
   rw[(t1.old g hz).1] at hi
   cases hi⟩
 have hMb:=tM (B:=Av dH B) (A':=Av ph Z) abc b.t hlb abh hM hH' hMc
 have nt:∀ g,dH g=some rt.res.length→∃ i,S1.length≤i∧ph g=some i:=fun g hg=>⟨_,by omega,CH g _ hg⟩
 have hR2:∃ du,bd du w0 W0 Z H S2 a w'∧(∀ g i,S1.length≤i→ ¬dH g=some rt.res.length→ph g=some i→du g=some i)∧∀ g i,du g=some i→dH g=some rt.res.length∨ph g=some i:=by
  rcases abi with⟨rfl,QK,hmt⟩ |⟨r,ex,bY,hp,dG,hmt,l9,gY,eY,Re⟩
  ·simp only[St.nY,Option.some.injEq] at Pg
   subst Pg
   exact GY (b:=⟨b.t,b.m,_⟩) hR nt (by rw[t2];exact QK) hmt hMb
  ·cases p with
   |nil=>exact absurd rfl hp
   |cons Dz pp=>
   simp only[St.nY,dG] at Pg
   split at Pg
   case h_2=>cases Pg
   rename_i m z mP
   simp only[Option.some.injEq,List.dropLast_concat] at Pg
   subst Pg
   have hh0:=t1.holds s
   rw[dG] at hh0
   obtain⟨agB,WN,JX⟩:=hh0
   obtain rfl:=cC hmt WN
   have tI:open_ (Dz::pp) (ex++[Dz::pp]):=by
    intro q hq s' r' e
    rcases List.mem_append.1 hq with hq |hq
    ·exact rn Re q hq s' r' e
    ·rw[List.mem_singleton.1 hq] at e
     have:=congrArg List.length e
     simp at this
   have BH:s<S1.length:=dQ (by rw[dG];exact fun e=>by cases e)
   have WT:=(ee cc (Dz::pp) none JX (fun g hg _=>pq g s BH hg) tI gY).1
   exact vU (b:=⟨b.t,b.m,_⟩) hR nt dG hmt (WT.trans l9) gY eY Re mP hMb
 refine⟨_,sZ, ?_⟩
 obtain⟨σ3,hR3,hR4,hR5⟩:=hR2
 replace hR3:=Rd (s:=s) h hR3
 revert hR3
 generalize St.again S S2 s=S2
 intro hR3
 have ajS:S2.length=S1.length:=by have:=hR3.len;have:=t1.len;omega
 obtain⟨n,hn⟩:∃ n,n=rt.res.length:=⟨_,rfl⟩
 have ajk:∀ g k,k<n→dH g=some k→σ3 g=some (S1.length+k):=fun g k hk hg=>hR4 g _ (by omega) (fun e=>by rw[hg] at e;injection e with e;omega) (CH g k hg)
 refine⟨_,hR3.Mz (ow:=fun g=>∃ k,k<n∧dH g=some k) (Nat.le_refl _) (fun _ _ _=>rfl) hR3.fr (fun g ⟨k,JQ,hk⟩=>⟨(q3 g k hk).2,.inl ⟨S1.length+k,by omega,ajk g k JQ hk⟩⟩) fun d _ g1 g2=> ?_⟩
 have agL:lT=true→a6 w' w' (Av dH B) (Av (fg σ3 o.dst fun g=>∃ k,k<n∧dH g=some k) Z):=fun xM=>⟨fun _ _ _=>rfl,fun g _ hg=>by
  rcases g2 g hg with (⟨i,hi⟩ |hz) |⟨k,_,hk⟩
  ·rcases hR5 g i hi with hk |hi
   ·exact .inl ⟨_,hk⟩
   ·rcases Yn g i hi with⟨k,hk⟩ |⟨q9,hk⟩
    ·exact .inl ⟨k,hk⟩
    ·exact .inr ⟨xM,t3.Av.1 (.inl ⟨i,hk⟩),q9⟩
  ·refine .inr ⟨xM,.inr hz,fun hx=> ?_⟩
   obtain⟨i,_,hi⟩:=CG g hx
   rw[(t1.old g hz).1] at hi
   cases hi
  ·exact .inl ⟨k,hk⟩⟩
 have yW:∀ (i:Nat) (b:TV),rt.res[i]? =some b→∃ u cs,vs[i]? =some u∧an b.t u cs∧M w' (Av (fg σ3 o.dst fun g=>∃ k,k<n∧dH g=some k) Z) H b.t b.m b.x cs (fun g=>i<n∧dH g=some i) []:=fun i b hb=>by
  obtain⟨u,c,u1,u2,u3⟩:=q4 i b hb
  have BL:i<n:=by rw[hn];exact(List.getElem?_eq_some_iff.1 hb).1
  have hsb:=List.all_eq_true.1 fq b (List.mem_of_getElem? hb)
  simp only[Bool.and_eq_true,Bool.or_eq_true] at hsb
  refine⟨u,c,u1,u2, ?_⟩
  rcases hsb.2 with hs |xM
  ·exact aN (a6.refl _ _) _ (fun _ _ _=>rfl) (fun g hg _=>⟨BL,hg⟩) (fun _ h=>h) (jJ _ hsb.1 (ia _ hs u3))
  ·exact aN (agL xM) _ (fun _ _ _=>rfl) (fun g hg _=>⟨BL,hg⟩) (fun _ h=>h) (jJ _ hsb.1 u3)
 have Rc:∀ l:List TV,l=rt.res→Holds w' (Av (fg σ3 o.dst fun g=>∃ k,k<n∧dH g=some k) Z) H (bM (a.put o.dst v)) (S2.put o.dst (.qZ (l.map some))) (fun g=>fg σ3 o.dst (fun g=>∃ k,k<n∧dH g=some k) g=some d) (.qZ (l.map some)) (.tuple vs.toArray):=fun l hl=>by
  subst hl
  refine⟨vs,fun g=>(dH g).getD 0,rfl,by simp[q2],fun j b hj=> ?_⟩
  rw[List.getElem?_map] at hj
  cases hb:rt.res[j]? with
  |none=>rw[hb] at hj;cases hj
  |some b'=>
   rw[hb] at hj
   simp only[Option.map_some,Option.some.injEq] at hj
   subst hj
   obtain⟨u,c,u1,u2,u3⟩:=yW j b' hb
   exact⟨u,c,u1,u2,aN (a6.refl _ _) _ (fun _ _ _=>rfl) (fun g hg _=>⟨g1 g ⟨j,hg⟩,by show(dH g).getD 0=j;rw[hg.2];rfl⟩) (fun _ h=>h) u3⟩
 subst q1
 match zd:rt.res,q2 with
 |[b],q2=>
  match vs,q2 with
  |[u],_=>
   obtain⟨u',c,u1,u2,u3⟩:=yW 0 b (by rw[zd];rfl)
   simp only[List.getElem?_cons_zero,Option.some.injEq] at u1
   subst u1
   exact⟨c,u2,aN (a6.refl _ _) _ (fun _ _ _=>rfl) (fun g hg _=>g1 g ⟨0,hg⟩) (fun _ h=>h) u3⟩
 |[],q2=>
  match vs,q2 with
  |[],_=>exact Rc [] zd.symm
 |b::b'::r,q2=>
  match vs,q2 with
  |u::u'::vr,_=>exact Rc (b::b'::r) zd.symm
end Go.Pv
namespace Go.Pv
set_option linter.unusedVariables false
set_option linter.unusedSimpArgs false
variable {P:Program} {w w':World} {A A' Wr:Nat→Prop} {H:Nat→Value} {tm o7:Nat→Value} {S S' S1:St} {σ bK du:Nat→Option Nat} {w0:World} {W0 Z:Nat→Prop} {a:Act} {own:Nat→Prop} {v:Value} {Θ:cK} {dst:Option Nat}
theorem bd.drop (h:bd σ w0 W0 Z H S a w) (ow:Nat→Prop) (pf:∀ g,ow g→∀ i,σ g=some i→S.length≤i):
  ∃ du,bd du w0 W0 Z H S a w∧(∀ g,Av du Z g→Av σ Z g∧ ¬ow g∨Z g):=by
 let du:Nat→Option Nat:=fun g=>open Classical in if ow g then none else σ g
 have h2:∀ g i,du g=some i→ ¬ow g∧σ g=some i:=fun g i hg=>by
  simp only[du] at hg
  split at hg
  ·cases hg
  ·exact⟨by assumption,hg⟩
 have h3:∀ g i, ¬ow g→σ g=some i→du g=some i:=fun g i hn hg=>by simp only[du,if_neg hn,hg]
 have cc:a6 w w (Av σ Z) (Av du Z):=⟨fun _ _ _=>rfl,fun g _ hg=>by
  rcases hg with⟨i,hi⟩ |hz
  ·exact .inl ⟨i,(h2 g i hi).2⟩
  ·exact .inr hz⟩
 refine⟨du,⟨h.len,h.defers,h.fr,fun g i hg=>h.new g i (h2 g i hg).2,fun g i hg=>h.lt g i (h2 g i hg).2,fun g hg=>⟨?_,(h.old g hg).2⟩,fun i=> ?_⟩,fun g hg=> ?_⟩
 ·simp only[du]
  split
  ·rfl
  ·exact(h.old g hg).1
 ·by_cases BL:i<S.length
  ·refine(h.holds i).kept cc (fun g hg _=>⟨rfl,h3 g i (fun hx=> ?_) hg⟩) (fun s hs=>⟨fun _ _ h=>h,rfl,_,h.holds s,fun _ _ _=>rfl⟩)
   have:=pf g hx i hg
   omega
  ·have hd:S.at i=.dead:=Classical.byContradiction fun hx=>BL (dQ hx)
   rw[hd];trivial
 ·rcases hg with⟨i,hi⟩ |hz
  ·exact .inl ⟨.inl ⟨i,(h2 g i hi).2⟩,(h2 g i hi).1⟩
  ·exact .inr hz
theorem my:∀ (p:Path) {t:Ty} {m:Md} {x:t.I} {b:TV},Ge p=true→a8 p t m x=some b→valid p t x
 |[],_,_,_,_,_,_=>trivial
 | .idx _::_,_,_,_,_,h,_=>by simp[Ge] at h
 | .deref::p,t,m,x,b,h,e=>by
  cases t<;>simp only[a8] at e<;>first |cases e |exact my p h e
 | .fst::p,t,m,x,b,h,e=>by
  cases t<;>simp only[a8] at e<;>first |cases e |exact my p h e
 | .snd::p,t,m,x,b,h,e=>by
  cases t<;>simp only[a8] at e<;>first |cases e |exact my p h e
theorem bd.freeze (h:bd σ w0 W0 Z H S a w) {d:Nat} {r:TV} (dG:S.at d=.v r []):Rel w0 W0 Z H (S.put (some d) (.v (JV r) [])) a w:=by
 have hh:=h.holds d
 rw[dG] at hh
 obtain⟨cs,hm,hM⟩:=hh
 have h0:∀ g,σ g=some d→ ¬Av (release σ (some d)) Z g:=fun g hg hx=>by
  rcases hx with⟨i,hi⟩ |hz
  ·obtain⟨h1,h2⟩:=dO hi
   rw[hg] at h1
   exact h2 h1
  ·rw[(h.old g hz).1] at hg;cases hg
 have cc:a6 w w (Av σ Z) (Av (release σ (some d)) Z):=⟨fun _ _ _=>rfl,fun g _ hg=>rU hg⟩
 refine⟨release σ (some d), ?_⟩
 have:=h.put (dst:=some d) (av:=.v (JV r) []) (v:=bM a d) cc h.fr (fun g i hg=>⟨h.new g i (dO hg).1,h.lt g i (dO hg).1⟩) (fun g hg=>by
  unfold release
  split
  ·rfl
  ·exact(h.old g hg).1) (fun i g _ hd hg=>⟨rfl,kg hd hg⟩) (fun d' Mr _ _=>by
  injection Mr with Mr
  subst Mr
  refine⟨cs,hm,ng (t:=r.t) rfl (PV (fun g _ hx=>rU hx) r.t rfl h0 hM)⟩)
 rw[jt] at this
 exact this
theorem Ph (h:Rel w0 W0 Z H S a w) {d:Nat} (e:Mh S d=some (true,S')):Rel w0 W0 Z H S' a w:=by
 obtain⟨σ,h⟩:=h
 unfold Mh at e
 split at e
 case h_2=>cases e
 rename_i t s st pp dG
 split at e
 case h_2=>cases e
 rename_i r ex hs
 split at e
 case h_2=>cases e
 rename_i b eY
 cases hk:b.m.bQ with
 |true=>rw[hk] at e;cases e
 |false=>
 rw[hk] at e
 simp only[cond_false,Option.some.injEq,Prod.mk.injEq] at e
 obtain⟨l9,rfl⟩:=e
 have hal:=h.holds d
 rw[dG] at hal
 obtain⟨bK,QJ,ow,t1,hm,hM,JQ,hn⟩:=pL (vv:=bM a d) h (by simp) hal hs eY hk (fun q hq=>by simpa using List.all_eq_true.1 l9 q hq)
 have:=t1.GG (dst:=some d) (v:=bM a d) (ow:=ow) (A':=Av bK Z) (fun _ _=>rfl) t1.fr (fun g hg=>by
  obtain⟨i,hi,lP⟩:=JQ.now g hg
  exact⟨t1.lt g i lP,.inl ⟨i,by omega,lP⟩⟩) (fun g _ hg=>by
  rcases hg with hg |hg
  ·exact hg
  ·obtain⟨i,hi,lP⟩:=JQ.now g hg
   exact .inl ⟨i,lP⟩) hm hM
 rw[jt] at this
 exact⟨_,this⟩
theorem Rf (h:Rel w0 W0 Z H S a w) (q:Nat×Path):Rel w0 W0 Z H (S.aaS q) a w:=by
 obtain⟨σ,h⟩:=h
 obtain⟨s,p⟩:=q
 unfold St.aaS
 simp only
 split
 case h_2=>exact⟨σ,h⟩
 rename_i r dG
 split
 case h_2=>exact⟨σ,h⟩
 rename_i b eY
 cases hc:(b.m.bQ|| !Ge p) with
 |true=>exact⟨σ,h⟩
 |false=>
 simp only[cond_false]
 simp only[Bool.or_eq_false_iff,Bool.not_eq_false'] at hc
 obtain⟨hk,hni⟩:=hc
 split
 ·exact h.freeze dG
 rename_i hp
 split
 case h_2=>exact⟨σ,h⟩
 rename_i m z mP
 have hh:=h.holds s
 rw[dG] at hh
 obtain⟨bY,BX,JX⟩:=hh
 have gY:=my p hni eY
 have tI:open_ p []:=fun _ hq=>by cases hq
 obtain⟨cs,cG,k1,k2,k3⟩:=focus p JX tI gY eY
 have hal:∃ t vv,Holds w (Av σ Z) H (bM a) S (fun _=>False) (.al t s p) vv∧t=b.t∧an t vv cs:=by
  obtain⟨vv,hvv⟩:∃ vv,an b.t vv cs:=by
   unfold an
   cases hg:isAgg b.t with
   |true=>exact⟨_,by rw[if_pos rfl]⟩
   |false=>
    have hl:=(eS _ k3).1
    have h1:=Cv hg
    rw[h1] at hl
    obtain⟨u,rfl⟩:=List.length_eq_one_iff.1 hl
    exact⟨u,by simp⟩
  exact⟨b.t,vv,⟨r,bY,cs,⟨⟨[],dG,tI⟩,gY,⟨b,eY,rfl⟩,BX⟩,k1,hvv⟩,rfl,hvv⟩
 obtain⟨t,vv,hal,rfl,hvv⟩:=hal
 obtain⟨bK,QJ,ow,t1,hm,hM,JQ,hn⟩:=pL (vv:=vv) h hp hal dG eY hk (fun _ hq=>by cases hq)
 obtain rfl:=cC hvv hm
 obtain⟨du,d1,d2⟩:=t1.drop ow (fun g hg i hi=>by
  obtain⟨j,hj,nO⟩:=JQ.now g hg
  rw[hi] at nO
  injection nO with nO
  omega)
 have hK:K w (Av du Z) b.t b.x cs:=PV (fun g _ hx=>by
  rcases d2 g hx with hx |hx
  ·exact hx.1
  ·exact .inr hx) b.t rfl (fun g hg hx=>by
  rcases d2 g hx with hx |hx
  ·exact hx.2 hg
  ·obtain⟨j,_,hj⟩:=JQ.now g hg
   rw[(t1.old g hx).1] at hj;cases hj) hM
 have ajl:St.at (((S.weaken s).cover s p).set s (.v r [p])) s=.v r ([]++[p]):=by
  rw[cr,if_pos ⟨rfl,by simp only[St.weaken,St.cover,List.length_map];exact dQ (by rw[dG];exact fun e=>by cases e)⟩]
  rfl
 obtain⟨σ3,h3,_⟩:=vU (b:=JV b) (nu:=fun _=>False) (ex:=[]) d1 (fun _ h=>h.elim) ajl BX k1 gY eY (fun _ hq=>by cases hq) mP (ng (t:=b.t) rfl hK)
 exact⟨σ3,h3⟩
theorem GZ:∀ (l:List (Nat×List (Nat×Path))) {id:Nat},Rel w0 W0 Z H S a w→Rel w0 W0 Z H (JY l id S) a w
 |[],_,h=>h
 |q::r,id,h=>by
  unfold JY
  cases Nat.beq q.1 id with
  |true=>
   simp only[cond_true]
   generalize q.2=l
   induction l generalizing S with
   |nil=>exact h
   |cons x l ih=>exact ih (Rf h x)
  |false=>exact GZ r h
end Go.Pv
namespace Go.Pv
set_option linter.unusedVariables false
set_option linter.unusedSimpArgs false
variable {Γ:Gl} {P:Program} {w w':World} {A A' Wr:Nat→Prop} {H:Nat→Value} {tm o7:Nat→Value} {S S' S1:St} {σ bK du:Nat→Option Nat} {w0:World} {W0 Z:Nat→Prop} {a:Act} {own:Nat→Prop} {v:Value} {Θ:cK} {dst:Option Nat} {O:bE} {hh:Hint} {Q:Exit→Act→World→Prop} {K:St→Option af} {ret:af}
def BY (w0:World) (W0 Z:Nat→Prop) (H:Nat→Value) (K:St→Option af) (ret:af) (a:Act) (w:World):Prop:=∃ S,K S=some ret∧Rel w0 W0 Z H S a w
theorem DN {o:Oper} {c:Call} {f:FuncId} {tO:List Value} (ho:o.op=.call c) (hc:∃ x,c.callee=.value x∧a.eval x=.func (.func f) #[] tO.toArray) {R:Value→World→Prop} (hd:GW P f (c.args.toList.map a.eval++tO) w R)
  {N:Act→World→Prop} (hN:∀ v w',R v w'→N (a.put o.dst v) w'):o.wp P a w N Q:=by
 obtain⟨x,hx,hv⟩:=hc
 have cQ:(execOp a.eval o).run P w=(callFunc f (c.args.toList.map a.eval++tO).toArray).run P w:=by
  simp only[execOp,ho,resolve,hx,Deferred.ofValue,hv,Sem.run_bind,Sem.run_pure,Result.andThen_ok,invoke]
  congr 2
  apply Array.toList_inj.1
  simp
 unfold Oper.wp
 rw[cQ]
 rcases hd with⟨h1,h2⟩ |⟨v,w',h1,h2⟩
 ·rw[h1,Oper.upon_enter]
  refine h2.mono fun e w' he=> ?_
  cases e with
  |returned v=>exact hN _ _ he
  |panicked c=>exact he.elim
  |outgrown=>exact he.elim
 ·rw[h1,Oper.upon_value]
  exact hN _ _ h2
theorem CI {f:FuncId} {c:Call} (hc:c.callee=.value (.func f)) (h:xy O (.call c)=true):∀ p∈O.sig f,p=.val:=by
 obtain⟨callee,args,ats⟩:=c
 simp only at hc
 subst hc
 simp only[xy,List.all_eq_true] at h
 intro p hp
 have:=h p hp
 cases p<;>first |rfl |cases this
theorem KD {op:Op} (h:quiet op=true):GU op=true:=by
 unfold GU
 split<;>first |rfl |exact h
theorem ze:∀ (l:List Pass) (n:Nat) {j:Nat},rR l n=some j→ ¬ ∀ p∈l,p=.val
 |[],n,j,h,_=>by cases h
 | .dA::r,n,j,h,hv=>by have:=hv .dA (by simp);cases this
 | .val::r,n,j,h,hv=>ze r (n+1) (by simpa[rR] using h) (fun p hp=>hv p (by simp[hp]))
 | .take::r,n,j,h,hv=>by have:=hv .take (by simp);cases this
theorem Rg (hT:cM P hh.bA=true) (h:bd σ w0 W0 Z H S a w) {T:TypeId} {x:Operand} {eq:Bool} {dst:Option Nat} (e:Mf hh dst T eq x S K=some ret):
  (∃ A n c,a.eval x=.slice A n c)∧∃ q,(binOp (bif eq then .eql else .neq) T (a.eval x) (.slice none 0 0)).run P w=.ok (.bool q) w∧∃ S',K S'=some ret∧Rel w0 W0 Z H S' (a.put dst (.bool q)) w:=by
 unfold Mf at e
 split at e
 case h_2=>cases e
 rename_i t m xs hx
 cases uJ:hh.bA.is T (.sl t) with
 |false=>rw[uJ] at e;cases e
 |true=>
 rw[uJ] at e
 simp only[cond_true] at e
 obtain⟨cs,h1,h2,_⟩:=gE h hx
 simp only[Go.Pv.K] at h2
 obtain⟨A,c,rfl,hc,aa9⟩:=h2
 have hv:a.eval x=.slice A (List.length xs) c:=by simpa[an,isAgg] using h1.symm
 obtain⟨i,hi,eQ⟩:=dz uJ
 obtain⟨_,hu,hTT⟩:=cO hT hi
 obtain⟨u1,_,_⟩:=jI hu eQ
 rw[hTT] at u1
 have jc:∀ d,(Op.equalIn (d+1) T (.slice A (List.length xs) c) (.slice none 0 0)).run P w=.ok A.isNone w:=fun d=>by
  simp only[Op.equalIn,Sem.run_bind,run_underlying u1,Result.andThen_ok]
  cases A<;>simp
 have cQ:(Op.equal T (a.eval x) (.slice none 0 0)).run P w=.ok A.isNone w:=by
  rw[hv]
  exact jc 9999
 have hq:(binOp (bif eq then .eql else .neq) T (a.eval x) (.slice none 0 0)).run P w=.ok (.bool (bif eq then A.isNone else !A.isNone)) w:=by
  cases eq<;>simp[binOp,cQ]
 refine⟨⟨A,_,c,hv⟩,_,hq, ?_⟩
 have put:∀ q:Bool,Rel w0 W0 Z H (S.put dst (.v ⟨.bool,.k,q⟩ [])) (a.put dst (.bool q)) w:=fun q=>⟨_,h.pure (cf q)⟩
 cases abj:List.isEmpty xs with
 |true=>
  rw[abj] at e
  simp only[cond_true] at e
  obtain⟨e1,e2⟩:=OO e
  cases hb:(bif eq then A.isNone else !A.isNone) with
  |true=>exact⟨_,e1,put true⟩
  |false=>exact⟨_,e2,put false⟩
 |false=>
  rw[abj] at e
  simp only[cond_false] at e
  have hp:0<List.length xs:=by
   cases xs with
   |nil=>simp at abj
   |cons _ _=>simp
  obtain⟨g,off,cur,T',fr,rfl,_⟩:=aa9 hp
  cases eq with
  |true=>exact⟨_,e,put false⟩
  |false=>exact⟨_,e,put true⟩
theorem agM (hT:cM P hh.bA=true) (hO:nz Γ P O w0 W0) (h:bd σ w0 W0 Z H S a w) {o:Oper} (e:fW hh O o S K=some ret):
  o.wp P a w (fun a' w'=>BY w0 W0 Z H K ret a' w'∧(xy O o.op=true→Ext w w')) Q:=by
 unfold fW at e
 split at e
 ·rename_i f as ts ho
  split at e
  ·rename_i j hj
   have hd:=WY hT hO h e
   rw[←List.append_nil (as.toList.map a.eval)] at hd
   refine DN ho (tO:=[]) ⟨_,rfl,by simp[Act.eval]⟩ hd ?_
   intro v w' ⟨S',h1,h2⟩
   exact⟨⟨S',h1,h2⟩,fun hx=>absurd (CI rfl (by rw[ho] at hx;exact hx)) (ze _ _ hj)⟩
  refine DN ho (tO:=[]) ⟨_,rfl,by simp[Act.eval]⟩ (MH hT hO h (.inl ⟨rfl,rfl⟩) e) ?_
  intro v w' ⟨S',h1,h2,h3⟩
  exact⟨⟨S',h1,h2⟩,fun hx=>h3 (CI rfl (by rw[ho] at hx;exact hx))⟩
 ·rename_i i as ts ho
  split at e
  case h_2=>cases e
  rename_i f cq dG
  have hold:=h.holds i
  rw[dG] at hold
  obtain⟨vs,v1,v2,v3⟩:=hold
  refine DN ho (tO:=vs) ⟨_,rfl,v1⟩ (MH hT hO h (.inr ⟨i,rfl,v1⟩) e) ?_
  intro v w' ⟨S',h1,h2,h3⟩
  refine⟨⟨S',h1,h2⟩,fun hx=> ?_⟩
  rw[ho] at hx
  cases hx
 ·rename_i T x T' ho
  obtain⟨⟨A,n,c,hv⟩,q,hq,S',hS,hR⟩:=Rg hT h (eq:=true) e
  unfold Oper.wp
  have hr:(execOp a.eval o).run P w=.ok (.value (.bool q)) w:=by
   have q8:(binOp .eql T (a.eval x) (a.eval (.const (.slice none 0 0)))).run P w=.ok (.bool q) w:=hq
   have hg:(eqGuard .eql T x (.const (.slice none 0 0)) (a.eval x) (a.eval (.const (.slice none 0 0)))).run P w=.ok () w:=by
    rw[hv]
    simp[eqGuard,Act.eval]
   simp only[execOp,ho,Sem.run_bind]
   rw[hg]
   simp only[Result.andThen_ok]
   rw[q8]
   rfl
  rw[hr,Oper.upon_value]
  exact⟨⟨S',hS,hR⟩,fun _=>Ext.refl w⟩
 ·rename_i T x T' ho
  obtain⟨⟨A,n,c,hv⟩,q,hq,S',hS,hR⟩:=Rg hT h (eq:=false) e
  unfold Oper.wp
  have hr:(execOp a.eval o).run P w=.ok (.value (.bool q)) w:=by
   have q8:(binOp .neq T (a.eval x) (a.eval (.const (.slice none 0 0)))).run P w=.ok (.bool q) w:=hq
   have hg:(eqGuard .neq T x (.const (.slice none 0 0)) (a.eval x) (a.eval (.const (.slice none 0 0)))).run P w=.ok () w:=by
    rw[hv]
    simp[eqGuard,Act.eval]
   simp only[execOp,ho,Sem.run_bind]
   rw[hg]
   simp only[Result.andThen_ok]
   rw[q8]
   rfl
  rw[hr,Oper.upon_value]
  exact⟨⟨S',hS,hR⟩,fun _=>Ext.refl w⟩
 ·rename_i n1 n2 n3 n4
  split at e
  case h_2=>cases e
  rename_i g S1 xJ
  cases g with
  |false=>cases e
  |true=>
  simp only[cond_true] at e
  by_cases agN:GU o.op=true
  ·obtain⟨w',v,r1,r2,r3⟩:=Q6 hT h agN xJ
   unfold Oper.wp
   rw[r1,Oper.upon_value]
   exact⟨⟨S1,e,r3⟩,fun _=>r2⟩
  ·obtain⟨w',v,r1,r3⟩:=agK hT h xJ
   have hna: ¬xy O o.op=true:=fun hx=>by
    apply agN
    revert hx n1
    generalize o.op=op
    intro n1 hx
    unfold xy at hx
    split at hx<;>first |rfl |(exact absurd rfl (n1 _ _ _)) |exact KD hx
   unfold Oper.wp
   rcases r1 with r1 |⟨rfl,r1⟩
   ·rw[r1,Oper.upon_value]
    exact⟨⟨S1,e,r3⟩,fun hx=>absurd hx hna⟩
   ·rw[r1,Oper.upon_skip]
    exact⟨⟨S1,e,r3⟩,fun hx=>absurd hx hna⟩
end Go.Pv
namespace Go.Pv
set_option linter.unusedVariables false
set_option linter.unusedSimpArgs false
variable {Γ:Gl} {P:Program} {w w':World} {A A' Wr:Nat→Prop} {H:Nat→Value} {tm o7:Nat→Value} {S S' S1:St} {σ bK du:Nat→Option Nat} {w0:World} {W0 Z:Nat→Prop} {a:Act} {own:Nat→Prop} {v:Value} {Θ:cK} {dst:Option Nat} {O:bE} {hh:Hint} {Q:Exit→Act→World→Prop} {ret:af} {ops:Array Oper}
theorem bd.less (h:bd σ w0 W0 Z H S a w) (hl:S'.length=S.length) (hs:∀ i,S'.at i=.dead∨(S'.at i=S.at i∧∀ s,(S.at i).refs s=true→S'.at s=S.at s)):bd σ w0 W0 Z H S' a w:=by
 refine⟨by rw[hl];exact h.len,h.defers,h.fr,h.new,h.lt,h.old,fun i=> ?_⟩
 rcases hs i with hi |⟨hi,hr⟩
 ·rw[hi];trivial
 ·rw[hi]
  exact(h.holds i).kept (a6.refl _ _) (fun g hg _=>⟨rfl,hg⟩) (fun s hs=>⟨fun r ex he=>by rw[hr s hs];exact he,rfl,_,h.holds s,fun _ _ _=>rfl⟩)
theorem Pj (h:Rel w0 W0 Z H S a w):Rel w0 W0 Z H (Cb S) a w:=by
 obtain⟨σ,h⟩:=h
 have dG:∀ i,(Cb S).at i=match S.at i with
  | .al t s []=>.al t s []
  | .al .. =>.dead
  | .ad .. =>.dead
  | .cut .. =>.dead
  |a=>a:=fun i=>yv S _ rfl i
 have hv:∀ s r ex,S.at s=.v r ex→(Cb S).at s=.v r ex:=fun s r ex he=>by rw[dG s,he]
 refine⟨σ,⟨by unfold Cb;rw[List.length_map];exact h.len,h.defers,h.fr,h.new,h.lt,h.old,fun i=> ?_⟩⟩
 have hi:=(h.holds i).kept (S':=Cb S) (a6.refl w (Av σ Z)) (fun g hg _=>⟨rfl,hg⟩) (fun s _=>⟨fun r ex he=>hv s r ex he,rfl,_,h.holds s,fun _ _ _=>rfl⟩)
 rw[dG i]
 split<;>first |trivial |(rename_i he;rw[he] at hi;exact hi) |exact hi
theorem vV (ks:List Nat):∀ (S:St) (i:Nat),(qG ks i S).length=S.length
 |[],_=>rfl
 |_::r,i=>by simp only[qG,List.length_cons,vV ks r]
theorem sg (ks:List Nat):∀ (S:St) (i j:Nat),(qG ks i S).at j=S.at j∨((qG ks i S).at j=.dead∧(S.at j).sY=false)
 |[],_,_=>.inl rfl
 |a::r,i,0=>by
  show(bif rS ks i then a else _)=a∨((bif rS ks i then a else _)=AV.dead∧a.sY=false)
  cases rS ks i with
  |true=>exact .inl rfl
  |false=>
   simp only[cond_false]
   split<;>first |exact .inl rfl |exact .inr ⟨rfl,rfl⟩
 |a::r,i,j+1=>sg ks r (i+1) j
theorem KE (ks:List Nat) (h:Rel w0 W0 Z H S a w):Rel w0 W0 Z H (yo ks S) a w:=by
 cases ks with
 |nil=>exact Pj h
 |cons k ks=>
  obtain⟨σ,h⟩:=h
  refine⟨σ,h.less (vV _ S 0) fun i=> ?_⟩
  rcases sg (k::ks) S 0 i with hi |⟨hi,_⟩
  ·refine .inr ⟨hi,fun s hs=> ?_⟩
   rcases sg (k::ks) S 0 s with hj |⟨_,hj⟩
   ·exact hj
   ·rw[J6 (h.holds i) hs] at hj;cases hj
  ·exact .inl hi
theorem zf:∀ (cs:List CK) (S:List Dj) {x:yk cs},pr cs S=some x→lG cs x=S
 |[],[],x,_=>rfl
 |[],_::_,x,e=>by simp[pr] at e
 | .kv _::r,[],x,e=>by simp[pr] at e
 | .pl _ _ _::r,[],x,e=>by simp[pr] at e
 | .kv t::r,.pl _ _ _::S,x,e=>by simp[pr] at e
 | .pl _ _ _::r,.kv _::S,x,e=>by simp[pr] at e
 | .kv t::r,.kv b::S,x,e=>by
  obtain⟨bt,bm,bx⟩:=b
  simp only[pr] at e
  split at e
  case isFalse=>cases e
  rename_i ht
  subst ht
  split at e
  case isFalse=>cases e
  rename_i hm
  subst hm
  split at e
  case h_2=>cases e
  rename_i y hy
  injection e with e
  subst e
  simp[lG,zf r S hy]
 | .pl t s p::r,.pl t' s' p'::S,x,e=>by
  simp only[pr] at e
  split at e
  case isFalse=>cases e
  rename_i ht
  subst ht
  cases hb:Nat.beq s' s with
  |false=>rw[hb] at e;cases e
  |true=>
   rw[hb] at e
   simp only[cond_true] at e
   have:=Nat.eq_of_beq_eq_true hb
   subst this
   split at e
   case isFalse=>cases e
   rename_i hp
   subst hp
   simp[lG,zf r S e]
theorem qM:∀ (ks:List Kd) (S:St) {x:cj ks},proj ks S=some x→(shape ks x).length=S.length∧∀ i,(shape ks x).at i=.dead∨((shape ks x).at i=S.at i∧((∃ t m y,ks[i]? =some (.v t m)∧S.at i=.v ⟨t,m,y⟩ [])∨(∃ t s,ks[i]? =some (.al t s)∧S.at i=.al t s [])∨∃ f cs y,ks[i]? =some (.nc f cs)∧S.at i=.nc f (lG cs y)))
 |[],[],x,_=>⟨rfl,fun i=>.inl rfl⟩
 |[],_::_,x,e=>by simp[proj] at e
 | .dead::r,[],x,e=>by simp[proj] at e
 | .v _ _::r,[],x,e=>by simp[proj] at e
 | .al _ _::r,[],x,e=>by simp[proj] at e
 | .nc _ _::r,[],x,e=>by simp[proj] at e
 | .nc f cs::r,a::S,x,e=>by
  cases a with
  |nc f' cq=>
   simp only[proj] at e
   cases hb:Nat.beq f' f with
   |false=>rw[hb] at e;cases e
   |true=>
    rw[hb] at e
    simp only[cond_true] at e
    have:=Nat.eq_of_beq_eq_true hb
    subst this
    split at e
    case h_2=>cases e
    rename_i y z hy hz
    injection e with e
    subst e
    obtain⟨h1,h2⟩:=qM r S hz
    have hc:=zf cs cq hy
    refine⟨by simp[shape,h1],fun i=> ?_⟩
    cases i with
    |zero=>exact .inr ⟨by simp[shape,St.at,hc],.inr (.inr ⟨_,_,y,rfl,by simp[St.at,hc]⟩)⟩
    |succ i=>exact h2 i
  |_=>simp[proj] at e
 | .dead::r,a::S,x,e=>by
  simp only[proj] at e
  obtain⟨h1,h2⟩:=qM r S e
  refine⟨by simp[shape,h1],fun i=> ?_⟩
  cases i with
  |zero=>exact .inl rfl
  |succ i=>exact h2 i
 | .v t m::r,a::S,x,e=>by
  cases a with
  |v b ex=>
   cases ex with
   |cons _ _=>simp[proj] at e
   |nil=>
    obtain⟨bt,bm,bx⟩:=b
    simp only[proj] at e
    split at e
    case isFalse=>cases e
    rename_i ht
    subst ht
    split at e
    case isFalse=>cases e
    rename_i hm
    subst hm
    split at e
    case h_2=>cases e
    rename_i y hy
    injection e with e
    subst e
    obtain⟨h1,h2⟩:=qM r S hy
    refine⟨by simp[shape,h1],fun i=> ?_⟩
    cases i with
    |zero=>exact .inr ⟨rfl,.inl ⟨_,_,_,rfl,rfl⟩⟩
    |succ i=>exact h2 i
  |_=>simp[proj] at e
 | .al t s::r,a::S,x,e=>by
  cases a with
  |al t' s' p=>
   cases p with
   |cons _ _=>simp[proj] at e
   |nil=>
    simp only[proj] at e
    split at e
    case isFalse=>cases e
    rename_i ht
    subst ht
    cases hb:Nat.beq s' s with
    |false=>rw[hb] at e;cases e
    |true=>
     rw[hb] at e
     simp only[cond_true] at e
     have:=Nat.eq_of_beq_eq_true hb
     subst this
     obtain⟨h1,h2⟩:=qM r S e
     refine⟨by simp[shape,h1],fun i=> ?_⟩
     cases i with
     |zero=>exact .inr ⟨rfl,.inr (.inl ⟨_,_,rfl,rfl⟩)⟩
     |succ i=>exact h2 i
  |_=>simp[proj] at e
theorem vb:∀ (ks:List Kd) (S:St) {x:cj ks},proj ks S=some x→∀ (i:Nat) (t:Ty) (m:Md),ks[i]? =some (Kd.v t m)→(shape ks x).at i=S.at i
 |[],_,x,_,i,t,m,hi=>by simp at hi
 | .dead::r,[],x,e,_,_,_,_=>by simp[proj] at e
 | .v _ _::r,[],x,e,_,_,_,_=>by simp[proj] at e
 | .al _ _::r,[],x,e,_,_,_,_=>by simp[proj] at e
 | .nc _ _::r,[],x,e,_,_,_,_=>by simp[proj] at e
 | .nc f cs::r,a::S,x,e,i,t,m,hi=>by
  cases i with
  |zero=>simp at hi
  |succ i=>
   cases a with
   |nc f' cq=>
    simp only[proj] at e
    cases hb:Nat.beq f' f with
    |false=>rw[hb] at e;cases e
    |true=>
     rw[hb] at e
     simp only[cond_true] at e
     split at e
     case h_2=>cases e
     rename_i y z hy hz
     injection e with e
     subst e
     exact vb r S hz i t m (by simpa using hi)
   |_=>simp[proj] at e
 | .dead::r,a::S,x,e,i,t,m,hi=>by
  simp only[proj] at e
  cases i with
  |zero=>simp at hi
  |succ i=>exact vb r S e i t m (by simpa using hi)
 | .v t0 m0::r,a::S,x,e,i,t,m,hi=>by
  cases i with
  |zero=>
   obtain⟨_,h2⟩:=qM _ _ e
   rcases h2 0 with h |h
   ·simp only[shape] at h
    cases h
   ·exact h.1
  |succ i=>
   cases a with
   |v b ex=>
    cases ex with
    |cons _ _=>simp[proj] at e
    |nil=>
     obtain⟨bt,bm,bx⟩:=b
     simp only[proj] at e
     split at e
     case isFalse=>cases e
     rename_i ht
     subst ht
     split at e
     case isFalse=>cases e
     split at e
     case h_2=>cases e
     rename_i y hy
     injection e with e
     subst e
     exact vb r S hy i t m (by simpa using hi)
   |_=>simp[proj] at e
 | .al t0 s::r,a::S,x,e,i,t,m,hi=>by
  cases i with
  |zero=>simp at hi
  |succ i=>
   cases a with
   |al t' s' p=>
    cases p with
    |cons _ _=>simp[proj] at e
    |nil=>
     simp only[proj] at e
     split at e
     case isFalse=>cases e
     cases hb:Nat.beq s' s with
     |false=>rw[hb] at e;cases e
     |true=>
      rw[hb] at e
      exact vb r S e i t m (by simpa using hi)
   |_=>simp[proj] at e
theorem G0:∀ (all ks:List Kd),fV all ks=true→∀ (i:Nat) (t:Ty) (s:Nat),ks[i]? =some (Kd.al t s)→∃ t' m',all[s]? =some (Kd.v t' m')
 |all,[],_,i,t,s,hi=>by simp at hi
 |all,k::r,h,i,t,s,hi=>by
  cases i with
  |zero=>
   simp only[List.getElem?_cons_zero,Option.some.injEq] at hi
   subst hi
   simp only[fV,Bool.and_eq_true] at h
   have:=h.1
   split at this
   ·rename_i t' m' h';exact⟨t',m',h'⟩
   ·cases this
  |succ i=>
   refine G0 all r ?_ i t s (by simpa using hi)
   cases k<;>simp only[fV,Bool.and_eq_true] at h<;>first |exact h |exact h.2
theorem CJ:∀ (all ks:List Kd),fV all ks=true→∀ (i:Nat) (f:FuncId) (cs:List CK),ks[i]? =some (Kd.nc f cs)→∀ t s p,CK.pl t s p∈cs→∃ t' m',all[s]? =some (Kd.v t' m')
 |all,[],_,i,f,cs,hi=>by simp at hi
 |all,k::r,h,i,f,cs,hi=>by
  cases i with
  |zero=>
   simp only[List.getElem?_cons_zero,Option.some.injEq] at hi
   subst hi
   simp only[fV,Bool.and_eq_true,List.all_eq_true] at h
   intro t s p hc
   have:=h.1 _ hc
   simp only at this
   split at this
   ·rename_i t' m' h';exact⟨t',m',h'⟩
   ·cases this
  |succ i=>
   refine CJ all r ?_ i f cs (by simpa using hi)
   cases k<;>simp only[fV,Bool.and_eq_true] at h<;>first |exact h |exact h.2
theorem pO:∀ (cs:List CK) (y:yk cs) (d:Nat),((lG cs y).any fun c=>match c with
  | .pl _ s _=>Nat.beq s d
  | .kv _=>false)=true→∃ t p,CK.pl t d p∈cs
 |[],y,d,h=>by simp[lG] at h
 | .kv t::r,y,d,h=>by
  simp only[lG,List.any_cons,Bool.false_or] at h
  obtain⟨t',p,hm⟩:=pO r y.2 d h
  exact⟨t',p,List.mem_cons_of_mem _ hm⟩
 | .pl t s p::r,y,d,h=>by
  simp only[lG,List.any_cons,Bool.or_eq_true] at h
  rcases h with h |h
  ·have:=Nat.eq_of_beq_eq_true h
   subst this
   exact⟨t,p,List.mem_cons_self ..⟩
  ·obtain⟨t',p',hm⟩:=pO r y d h
   exact⟨t',p',List.mem_cons_of_mem _ hm⟩
theorem Rh (h:Rel w0 W0 Z H S a w) (i:Nat) (k:Kd):Rel w0 W0 Z H (Wn S i k) a w:=by
 unfold Wn
 split
 case h_2=>exact h
 rename_i t m
 cases hk:m.bQ with
 |true=>exact h
 |false=>
  simp only[cond_false]
  split
  case h_2=>exact h
  rename_i t' s dG
  split
  case h_2=>exact h
  rename_i b S1 hb
  obtain⟨σ,h⟩:=h
  obtain⟨bK,cs,ow,h1,hm,hM,hkk,hn⟩:=ef (Θ:=[]) (T:=0) (x:=.tmp i) h (by simp only[St.dn];rw[dG]) hb
  let P0:Program:=default
  obtain⟨v2,GQ,du,h3⟩:=nw (P:=P0) (dst:=some i) (n:=S.length) (s:=(pure (Next.value (bM a i)):Sem Next)) h1 hkk hn (fun w2 _=>rfl) hm hM
  have Wc:=GQ w (Ext.refl w)
  have e1:Next.value (bM a i)=Next.value v2:=by
   have:(Result.ok (Next.value (bM a i)) w:Result Next)=Result.ok (Next.value v2) w:=Wc
   injection this
  injection e1 with e1
  subst e1
  rw[jt] at h3
  exact⟨du,h3⟩
theorem zg:∀ (ks:List Kd) (i:Nat) {S:St},Rel w0 W0 Z H S a w→Rel w0 W0 Z H (JZ ks i S) a w
 |[],_,_,h=>h
 |k::r,i,_,h=>zg r (i+1) (Rh h i k)
theorem mA (h:Rel w0 W0 Z H S a w) {ks:List Kd} (e:mq ks S=some S1):Rel w0 W0 Z H S1 a w:=by
 obtain⟨σ,h⟩:=zg ks 0 h
 unfold mq at e
 cases hk:fV ks ks with
 |false=>rw[hk] at e;cases e
 |true=>
 rw[hk] at e
 simp only[cond_true] at e
 split at e
 case h_2=>cases e
 rename_i x vO
 injection e with e
 subst e
 obtain⟨h1,h2⟩:=qM ks _ vO
 refine⟨σ,h.less h1 fun i=> ?_⟩
 rcases h2 i with hi |⟨hi,hx⟩
 ·exact .inl hi
 ·refine .inr ⟨hi,fun s hs=> ?_⟩
  rcases hx with⟨t,m,y,_,h3⟩ |⟨t,s',JQ,h3⟩ |⟨f,cs,y,JQ,h3⟩
  ·rw[h3] at hs;cases hs
  ·rw[h3] at hs
   have:s'=s:=Nat.eq_of_beq_eq_true hs
   subst this
   obtain⟨t',m',h4⟩:=G0 ks ks hk i t s' JQ
   exact vb ks _ vO s' t' m' h4
  ·rw[h3] at hs
   obtain⟨t',p,h5⟩:=pO cs y s hs
   obtain⟨t',m',h4⟩:=CJ ks ks hk i f cs JQ _ _ _ h5
   exact vb ks _ vO s t' m' h4
end Go.Pv
