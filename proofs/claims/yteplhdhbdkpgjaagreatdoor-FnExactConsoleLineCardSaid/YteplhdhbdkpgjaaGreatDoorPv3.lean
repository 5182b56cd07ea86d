/- A verified evaluator of the program's form over pure values, part 3: what it tells of a function holds. -/
import Derived.Test.YteplhdhbdkpgjaaGreatDoorPv2
import Derived.Carry
import Derived.Deep.AppendSrc
import Derived.Deep.Upon
import Derived.MapKept
import Derived.WideKeyPair
set_option linter.unusedSimpArgs false
set_option linter.unusedVariables false
noncomputable section
set_option autoImplicit true
set_option relaxedAutoImplicit true
namespace Go.Pv
open List Int IntKind
abbrev jq:= @Array.size_append
abbrev nI:= @Array.toList_append
abbrev lC:= @List.getElem?_replicate
abbrev cN:= @List.getElem_append_left
abbrev dN:= @List.getElem_append_right
abbrev vl:= @List.getElem_map
abbrev aK:= @List.getElem_mem
abbrev dO:= @List.length_replicate
abbrev k8:= @List.map_append
abbrev od:= @List.map_nil
abbrev oe:= @List.map_set
abbrev fW:= @List.mem_of_mem_take
abbrev fX:= @List.mem_or_eq_of_mem_set
abbrev lS:= @Go.MapKept.run_getObj_map
abbrev vG:= @Nat.le_trans
abbrev mD:= @Nat.mod_eq_of_lt
abbrev pD:= @Nat.mul_le_mul_left
abbrev mY:= @Option.map_eq_some_iff
abbrev ak:= @decide_eq_false
abbrev vH:= @Go.grownCap_ge
abbrev og:= @Go.grownCap_le_maxLen
abbrev rY:= @Go.run_firstCells_some
abbrev qI:= @Go.run_storeCells_cells
variable {P:Program} {w w':World} {A A' Wr:Nat->Prop} {H:Nat->Value} {tm Nj:Nat->Value} {S S' S1:St} {σ eK lR:Nat->Option Nat} {w0:World} {W0 Z:Nat->Prop} {a:Act} {own:Nat->Prop} {v:Value} {Θ:nh} {dst:Option Nat}
theorem aii (sr:List (List Value)) (h:∀ c∈sr,c.length=s) (j:Nat) (hj:j<sr.length):(sr.flatten.drop (j*s)).take s=sr[j]:=by
 have h1:(sr.take j).flatten.length=j*s:=by rw[Fp s (λc hc=>h c (fW hc)),aH,kM (by omega)]
 rw[MP sr j hj,←h1,dy,←h (sr[j]) (aK hj),eh]
theorem axA {t:Ty} {m:Md} {xs:List t.I} {sr:List (List Value)} {ow:Nat->Prop} {τ:Nat->Nat} (e:TypeId) (hl:sr.length=xs.length) (hM:∀ (j:Nat) (hj:j<xs.length),M w A H t m xs[j] (sr[j]'(by omega)) (λg=>ow g/\τ g=j) []) (gU:∀ g,ow g->g<w.heap.size) (aBh:xs.length<=maxLen): M (w.alloc (.cells sr.flatten.toArray e)) (λg=>A g∨w.heap.size<=g) H (.sl t) (.o e none m) xs [.slice (some ⟨w.heap.size,0,none⟩) xs.length xs.length] (λg=>ow g∨g=w.heap.size) []:=by
 have tZ:∀ c∈sr,c.length=t.size:=λc hc=>by obtain⟨j,hj,rfl⟩:=bL.1 hc;exact(rK t (hM j (by omega))).1
 simp only[M];refine .inr (.inr ⟨e,none,m,some ⟨w.heap.size,0,none⟩,xs.length,rfl,rfl,aR _,λh hh=>(by cases hh),.inr ⟨w.heap.size,sr.flatten.toArray,τ,rfl,.inr rfl,ia w _,?_,aBh,λj hj=>?_⟩⟩)
 ·rw[cg,Fp t.size tZ,hl]
 rw[b5,aii sr tZ j (by omega)];refine ca (w:=w) ⟨λg _ hg=>heap_alloc_old w _ g hg,λg hg hx=>?_⟩ t (λg hg hl=>heap_alloc_old w _ g hl) (λg hg hl=>⟨.inl hg.1,by omega,hg.2⟩) (λ_ h=>by simp at h) (hM j hj);rcases hx with hx |hx
 ·exact hx
 omega
theorem aeM (zl:List Value):∀ n,madeCells zl.toArray (n*zl.length)=(List.replicate n zl).flatten.toArray:=by
 intro n;unfold madeCells;apply il.1;simp only[nf,Array.toList_range,b5];induction n with
 |zero=>simp
 |succ n ih=>
 rw[bg,cM,List.range_add,k8,ih,rV,List.flatten_append];congr 1;simp only[oa,gI,List.flatten_nil,b6];apply de;intro k;by_cases hk:k<zl.length
 ·simp[hk,ud,mD hk]
 simp[hk]
theorem Y7 :∀ {l:List TV} {xs:List t.I},Oc t m l=some xs->xs.length=l.length/\∀ (k:Nat) (hk:k<xs.length),l[k]?=some ⟨t,m,xs[k]⟩
 |[],xs,h=>by simp only[Oc,ah] at h;subst h;exact⟨rfl,λk hk=>by simp at hk⟩
 |b::r,xs,h=>by
  simp only[Oc] at h;split at h
  ·rename_i ht;split at h
   ·rename_i hm;split at h
    ·rename_i l hl;injection h with h;subst h;obtain⟨h1,h2⟩:=Y7 hl;obtain⟨bt,bm,bx⟩:=b;simp only at ht hm;subst ht hm;refine⟨by simp[h1],λk hk=>?_⟩;cases k with
     |zero=>rfl
     |succ k=>simpa using h2 k (by simpa using hk)
    cases h
   cases h
  cases h
theorem ad3 (hT:ke P Θ=true) (h:dp σ w0 W0 Z H S a w) (ho:o.op=.buildSlice T n ps) (e:fw Θ hn S o.dst T n ps.toList=some (true,S')):Ug P w0 W0 Z H S' a o.dst w (execOp a.eval o):=by
 unfold fw at e;split at e;case h_2=>cases e
 rename_i T0 t te fs0 hi;cases hc:(EZ n ps.toList&&Nat.ble n 1800) with
 |false=>rw[hc] at e;cases e
 |true=>
  rw[hc] at e
  simp only[ab] at e
  simp only[ai] at hc
  obtain⟨hpl,ayE⟩:=hc
  have ayE:=bH ayE
  split at e
  case h_2=>cases e
  rename_i l S1 hl
  obtain⟨eK,ow,τ,sr,h1,hnn,hk,C1,hll,hj,D1⟩:=MQ hT ps.toList _ 0 h hl
  rw[dO] at hll
  obtain⟨_,hu,hT0⟩:=kP hT hi
  simp only at hT0
  subst hT0
  obtain⟨u1,u2,u3⟩:=Gs hu rfl
  simp only at u1 u2
  obtain⟨i2,AY,ht2⟩:=pC u2
  obtain⟨⟨sm,inf,z,k1,k2,_,_,_,k3,k4⟩,_,hte⟩:=kP hT AY
  rw[hte] at k1
  rw[ht2] at k2 k4 sm
  have gU:∀ g,ow g->g<w.heap.size:=λg hg=>by
   obtain⟨i,_,hi⟩:=hk.was g hg
   exact h.lt g i hi
  -- all parts are of the type
  have tZ:(∃ m xs m',Oc t m l=some xs/\(m'=.o te none m∨(m'=.k/\m.fu=true))/\S'=S1.put o.dst (.v ⟨.sl t,m',xs⟩ [])):=by
   split at e
   ·simp only[ah,aG,cp] at e
    cases hf:hn.aoF o.dst with
    |true=>exact⟨.k,[],_,rfl,.inr ⟨by rw[hf];rfl,rfl⟩,e.symm⟩
    |false=>exact⟨_,[],_,rfl,.inl (by rw[hf];rfl),e.symm⟩
   ·split at e
    ·rename_i xs hxs
     simp only[ah,aG,cp] at e
     refine⟨_,xs,_,hxs,?_,e.symm⟩
     generalize hf:(hn.aoF o.dst&&_)=q
     cases q with
     |true=>
      simp only[ai] at hf
      exact .inr ⟨rfl,hf.2⟩
     |false=>exact .inl rfl
    ·cases e
  obtain⟨m,xs,m',hxs,hm',rfl⟩:=tZ
  obtain⟨x1,x2⟩:=Y7 hxs
  have rS:∀ (k:Nat) (b:TV),l[k]?=some b->b.t=t:=λk b hb=>by
   have hkl:k<xs.length:=by rw[x1];exact(bO.1 hb).1
   rw[x2 k hkl] at hb
   injection hb with hb
   rw[←hb]
  have hzl:(l.map λb=>zc b.t)=List.replicate n (zc t):=by
   apply de
   intro k
   rw[bR,lC]
   by_cases hkl:k<l.length
   ·rw[aA (by omega),aU hkl,aS,rS k _ (aU hkl)]
   ·rw[aq (by omega),cA (by omega)]
    rfl
  have aqM:=abt (a:=a) (ps:=ps.toList) (l:=l) (sr:=sr) (place:=λk=>some (k*t.size,t.size)) C1 (by rw[hll];exact hpl) (λk b cs hb wS=>by
    obtain⟨kY,c1,c2,_⟩:=D1 k b hb
    rw[c1] at wS
    injection wS with wS
    subst wS
    exact rK _ c2) (λk b hb=>by
    obtain⟨kY,c1,_,c3⟩:=D1 k b hb
    simp only[aW] at c3
    exact⟨kY,c1,c3⟩) (λk hk=>by
    rw[rS k _ (aU hk),hzl]
    congr 2
    unfold Ly
    rw[List.take_replicate,kM (by omega),List.map_replicate,List.sum_replicate_nat,Iz])
  have hz1:z.cells=(zc t).toArray:=zd k4 (λu hu=>?_)
  rotate_left
  ·-- one cell each
   have:∀ (t:Ty),∀ u∈zc t,u.oneCell'=true:=by
    intro t
    induction t with
    |pair a b iha ihb=>intro u hu;simp only[zc,bd] at hu;rcases hu with hu |hu;exact iha u hu;exact ihb u hu
    |arr n t ih=>intro u hu;simp only[zc,xy] at hu;obtain⟨c,hc,hu⟩:=hu;rw[List.eq_of_mem_replicate hc] at hu;exact ih u hu
    |unit=>intro u hu;simp[zc] at hu
    |_=>intro u hu;simp only[zc,bu] at hu;subst hu;rfl
   exact this t u hu
  have hlc:sr.length=xs.length:=by omega
  have aij:=axA (w:=w) (A:=Av σ Z) (H:=H) (t:=t) (m:=m) (xs:=xs) (sr:=sr) (ow:=ow) (τ:=τ) te hlc (λj hj=>by
    have Np:=x2 j hj
    obtain⟨kY,c1,c2,_⟩:=D1 j _ Np
    rw[aU (by omega)] at c1
    injection c1 with c1
    rw[c1]
    simpa using c2) gU (by simp only[maxLen];omega)
  have iD:(Instr.buildSlice T0 n (ps.map λ(j,x)=>(j,a.eval x))).run P w=.ok (.slice (some ⟨w.heap.size,0,none⟩) n n) (w.alloc (.cells sr.flatten.toArray te)):=by
   have sW: ¬n*t.size>2^24:=by
    have:=Nat.mul_le_mul ayE sm
    omega
   have aqN:Instr.fill (λi=>some (i*t.size,t.size)) ((Array.range (n*t.size)).map (z.cells[· %z.cells.size]!)) (ps.map λx=>(x.1,a.eval x.2)).toList=some sr.flatten.toArray:=by
    have:=aeM (zc t) n
    unfold madeCells at this
    rw[hz1,nf]
    rw[Iz] at this
    rw[this,←hzl]
    exact aqM
   have hso:(sizeOf te).run P w=.ok t.size w:=by
    simp[sizeOf,typeInfo,k1,k2]
   have hzv:(zeroValue te).run P w=.ok z w:=by
    simp[zeroValue,typeInfo,k1,k3]
   by_cases h0:n*t.size=0
   ·have ayF:Instr.fill (λi=>some (i*t.size,t.size)) ((Array.range (n*t.size)).map ((#[]:Array Value)[· %(#[]:Array Value).size]!)) (ps.map λx=>(x.1,a.eval x.2)).toList=some sr.flatten.toArray:=by
     rw[←aqN,h0]
     simp[Array.range_zero']
    unfold Instr.buildSlice
    simp only[a6,bc u1,aX,hso,sW,c9]
    rw[aA h0]
    simp only[a6,dk,aX,ayF]
    simp[newRow]
   ·unfold Instr.buildSlice
    simp only[a6,bc u1,aX,hso,sW,c9]
    rw[aq h0]
    simp only[a6,dk,hzv,aX,aqN]
    simp[newRow]
  have hex:(execOp a.eval o).run P w=.ok (.value (.slice (some ⟨w.heap.size,0,none⟩) n n)) (w.alloc (.cells sr.flatten.toArray te)):=by
   simp only[execOp,ho,a6,iD,aX]
   rfl
  have aDH:∀ g,Av eK Z g->g<w.heap.size:=λg hg=>by
   rcases hg with⟨i,hi⟩ |hz
   ·exact h1.lt g i hi
   ·have:=(h1.old g hz).2;have:=h1.fr.size;omega
  rcases hm' with rfl |⟨rfl,hmk⟩
  ·refine⟨w.alloc (.cells sr.flatten.toArray te),.slice (some ⟨w.heap.size,0,none⟩) n n,hex,λg hg=>heap_alloc_old w _ g hg,_,h1.af6 (b:=⟨.sl t,.o te none m,xs⟩) (cs:=[.slice (some ⟨w.heap.size,0,none⟩) n n]) (λg hg=>heap_alloc_old w _ g hg) (h1.fr.alloc _) (λg hg=>?_) (λg hg hx=>?_) (by simp[a7,isAgg]) (by
    have:xs.length=n:=by omega
    rw[this] at aij
    exact aij)⟩
   ·rcases hg with hg |rfl
    ·obtain⟨i,hi,dU⟩:=hk.now g hg
     have:=gU g hg
     exact⟨by simp only[World.alloc,gA];omega,.inl ⟨i,by omega,dU⟩⟩
    ·exact⟨by simp only[World.alloc,gA];omega,.inr (aR _)⟩
   ·rcases hx with hx |hx |rfl
    ·exact .inl (hk.Av.1 hx)
    ·obtain⟨i,_,hi⟩:=hk.was g hx
     exact .inl (.inl ⟨i,hi⟩)
    ·exact .inr (aR _)
  ·refine⟨w.alloc (.cells sr.flatten.toArray te),.slice (some ⟨w.heap.size,0,none⟩) n n,hex,λg hg=>heap_alloc_old w _ g hg,_,h1.af6 (b:=⟨.sl t,.k,xs⟩) (cs:=[.slice (some ⟨w.heap.size,0,none⟩) n n]) (ow:=λ_=>False) (A':=Av eK Z) (λg hg=>heap_alloc_old w _ g hg) (h1.fr.alloc _) (λg hg=>hg.elim) (λg hg hx=>hx.resolve_right id) (by simp[a7,isAgg]) (KO (t:=.sl t) rfl ?_)⟩
   have hxn:xs.length=n:=by omega
   show K _ _ (.sl t) xs _
   have avh:∀ c∈sr,c.length=t.size:=λc hc=>by
    obtain⟨j,hj,rfl⟩:=List.getElem_of_mem hc
    obtain⟨kY,c1,c2,_⟩:=D1 j _ (x2 j (by omega))
    rw[aU hj] at c1
    injection c1 with c1
    rw[c1]
    exact(rK _ c2).1
   have Xy:sr.flatten.length=n*t.size:=by rw[Fp t.size avh,hlc,hxn]
   simp only[K]
   refine⟨some ⟨w.heap.size,0,none⟩,n,by rw[hxn],by omega,λ_=>⟨w.heap.size,0,sr.flatten.toArray,te,(0,0),rfl,λhx=>absurd (aDH _ hx) (zb _),ia w _,by simp only[cg,Xy,hxn];omega,λj hj'=>?_⟩⟩
   obtain⟨kY,c1,c2,_⟩:=D1 j _ (x2 j hj')
   rw[aU (by omega)] at c1
   injection c1 with c1
   have wc:=aii sr avh j (by omega)
   simp only[aW]
   rw[wc,c1]
   refine fR ⟨λg _ hg=>heap_alloc_old w _ g hg,λg _ hg=>hk.Av.1 hg⟩ t (tJ t hmk c2)
theorem aga (hT:ke P Θ=true) (h:dp σ w0 W0 Z H S a w) (ho:o.op=.makeSlice T l c) (e:wb Θ S o.dst T l c=some (true,S')):Ug P w0 W0 Z H S' a o.dst w (execOp a.eval o):=by
 unfold wb at e;split at e;case h_2=>cases e
 rename_i T0 t te fs0 n n' hi hl hc;split at e;case h_2=>cases e
 rename_i z hz;split at e;case isFalse=>cases e
 rename_i hzt;simp only[ah,aG,ai,ax] at e;obtain⟨⟨⟨rfl,h0⟩,h40⟩,rfl⟩:=e;obtain⟨kl,hl⟩:=za h hl;obtain⟨kc,hc⟩:=za h hc;obtain⟨_,hu,hT0⟩:=kP hT hi;simp only at hT0;subst hT0;obtain⟨u1,u2,u3⟩:=Gs hu rfl;simp only at u1;obtain⟨i,inf,zv,AY,rS,hx,R4,q1,q2,q3,q4,q5,q6⟩:=XA hT hz;have hM0:M w (Av σ Z) H z.t z.m z.t.z (zc z.t) (λ_=>False) []:=abq z.t R4;have hzc:zv.cells=(zc z.t).toArray:=zd q4 (rK _ hM0).2;have iD:=run_make (P:=P) w T0 te inf zv u1 q1 q3 kl kc n n h0 (Int.le_refl _) (by
  have h1:(inf.bytes:Int)<=256:=by omega
  calc (inf.bytes:Int)*n<=256*n:=Int.mul_le_mul_of_nonneg_right h1 h0
   _<=281474976710656:=by omega) (by omega)
 rw[q2,hzc,←Iz,aeM] at iD;have aij:=axA (w:=w) (A:=Av σ Z) (H:=H) (t:=t) (m:=z.m) (xs:=List.replicate n.toNat t.z) (sr:=List.replicate n.toNat (zc z.t)) (ow:=λ_=>False) (τ:=λ_=>0) te (by simp) (λj hj=>by
  subst hzt
  simp only[List.getElem_replicate]
  exact af7 hM0) (λ_ h=>h.elim) (by simp only[dO,maxLen];omega)
 refine⟨w.alloc (.cells (List.replicate n.toNat (zc z.t)).flatten.toArray te),_,?_,λg hg=>heap_alloc_old w _ g hg,_,h.af6 (b:=⟨.sl t,.o te none z.m,List.replicate n.toNat t.z⟩) (cs:=[.slice (some ⟨w.heap.size,0,none⟩) n.toNat n.toNat]) (w':=w.alloc (.cells (List.replicate n.toNat (zc z.t)).flatten.toArray te)) (v:=.slice (some ⟨w.heap.size,0,none⟩) n.toNat n.toNat) (λg hg=>heap_alloc_old w _ g hg) (h.fr.alloc _) (λg hg=>?_) (λg hg hx=>?_) (by simp[a7,isAgg]) (by
  rw[dO] at aij
  exact aij)⟩
 ·simp only[execOp,ho,hl,hc,a6,iD,aX];rfl
 ·rcases hg with hg |rfl
  ·exact hg.elim
  exact⟨by simp only[World.alloc,gA];omega,.inr (aR _)⟩
 rcases hx with hx |hx |rfl
 ·exact .inl hx
 ·exact hx.elim
 exact .inr (aR _)
end Go.Pv
namespace Go.Pv
open List Int IntKind
variable {P:Program} {w w':World} {A A' Wr:Nat->Prop} {H:Nat->Value} {tm Nj:Nat->Value} {S S' S1:St} {σ eK lR:Nat->Option Nat} {w0:World} {W0 Z:Nat->Prop} {a:Act} {own:Nat->Prop} {v:Value} {Θ:nh} {dst:Option Nat}
theorem Um {olds news:List Value} {s n j:Nat} (hl:olds.length=n*s) (hj:j<n):((olds++news).drop (j*s)).take s=(olds.drop (j*s)).take s:=by have h1:(j+1)*s<=n*s:=aD s hj;rw[bg,cM] at h1;rw[List.drop_append_of_le_length (by omega),List.take_append_of_le_length (by rw[a8];omega)]
theorem aeN {olds news:List Value} {s n j:Nat} (hl:olds.length=n*s):((olds++news).drop ((n+j)*s)).take s=(news.drop (j*s)).take s:=by rw[bg,←hl,List.drop_append,iP,List.drop_eq_nil_of_le (Nat.le_add_right _ _),b7]
theorem LA {cur:List Value} {s n j:Nat} (hj:j<n):((cur.take (n*s)).drop (j*s)).take s=(cur.drop (j*s)).take s:=by have h1:(j+1)*s<=n*s:=aD s hj;rw[bg,cM] at h1;rw[iL,ni,kM (by omega)]
theorem mJ (hw:w.heap[g]?=some (.cells cur t (0,0))) (hb:o+vs.length<=cur.size) (h1:∀ u∈vs,u.oneCell'=true): w.setCells g o vs=w.setRow g (putCells cur.toList o vs).toArray:=by
 have e1:=run_storeCells_at (P:=(default:Program)) g o t vs 0 cur w hw (by omega) h1;have e2:=qI (P:=(default:Program)) g o vs 0 w (λj hj=>by
  have:o+j<cur.size:=by omega
  simp[World.cell?,hw,this]) (λj hj=>by simp[World.frozen?,hw]) h1
 rw[e1] at e2;simp only[dZ,Result.ok.injEq,cp] at e2;exact e2.symm
theorem ak7 {T' e':TypeId} {size:Nat} {t:Ty} {ys:List t.I} {vy:Value} (hk:P.underlying T'=some (.slice e')) (hs:size=t.size) (h:∃ X c,vy=.slice X ys.length c/\(0<ys.length->∃ g off cur T fr,X=some ⟨g,off,none⟩/\w.heap[g]?=some (.cells cur T fr)/\off+ys.length*t.size<=cur.size/\∀ u∈(cur.toList.drop off).take (ys.length*t.size),u.oneCell'=true)): ∃ news,Src P size T' vy ys.length news w/\(∀ g off cur T fr X c,vy=.slice X ys.length c->X=some ⟨g,off,none⟩->w.heap[g]?=some (.cells cur T fr)->0<ys.length->news=(cur.toList.drop off).take (ys.length*t.size)):=by
 subst hs;obtain⟨X,c,rfl,h⟩:=h;rcases vj ys.length with h0 |h0
 ·refine⟨[],?_,λ_ _ _ _ _ _ _ _ _ _ hp=>by omega⟩;rw[h0];cases X with
  |none=>exact Src.ofNil w hk c
  |some ad=>exact Src.ofSlice w hk ad 0 c [] (by simp) (λj u hu=>by simp at hu) (λu hu=>by simp at hu)
 obtain⟨g,off,cur,T,fr,rfl,hw,hb,h1⟩:=h h0;refine⟨(cur.toList.drop off).take (ys.length*t.size),Src.ofSlice w hk ⟨g,off,none⟩ ys.length c _ (by have hc:cur.toList.length=cur.size:=bT;rw[aH,a8];omega) (λj u hu=>?_) h1,?_⟩
 ·have hj:j<ys.length*t.size:=(by have:=(bO.1 hu).1;rw[aH] at this;omega);rw[bQ,aA hj,cG] at hu;rw[AT];simp only[World.cell?,hw];rw[←bK];exact hu
 intro g' aEM ak8 T' fr' X' c' e1 e2 hw' _;injection e1 with e1;subst e2;injection e1 with e1;injection e1 with e1 Uf;subst e1 Uf;rw[hw] at hw';injection hw' with hw';injection hw' with hw';rw[hw']
def join (Rv:Nat->Prop) (n:Nat) (τN τ:Nat->Nat) (g:Nat):Nat:=open Classical in if Rv g then n+τN g else τ g
theorem anp {Rv:Nat->Prop} (h:Rv g):join Rv n τN τ g=n+τN g:=aA h
theorem aik {Rv:Nat->Prop} (h: ¬Rv g):join Rv n τN τ g=τ g:=aq h
theorem Un (hT:ke P Θ=true) {T T' e ty:TypeId} {t:Ty} {tag:Option Nat} {me:Md} {xs ys:List t.I} {vx vy:Value} {owx Rv:Nat->Prop} {τN:Nat->Nat} {news:List Value} {inf:TypeInfo} {z:Value}
  (hu:P.underlying T=some (.slice e)) (hi:P.info? e=some inf) (hz:inf.zero=some z) (sW:inf.size=t.size) (hby:inf.bytes<=32*t.size) (hzs:z.cells.size=t.size) (ZH:0<t.size)
  (hx:M w A H (.sl t) (.o e tag me) xs [vx] owx []) (Ox:Src P t.size T' vy ys.length news w)
  (hN:∀ (k:Nat) (hk:k<ys.length),M w A H t me ys[k] ((news.drop (k*t.size)).take t.size) (λg=>Rv g/\τN g=k) [])
  (aqO:∀ g,owx g->¬Rv g) (hxA:∀ g,owx g->A g) (hlx:∀ g,owx g->g<w.heap.size) (hlN:∀ g,Rv g->g<w.heap.size) (agb:(xs.length+ys.length)*t.size<=4398046511104):
  ∃ v' w' kF,(Builtin.append_ #[T,T'] ty #[vx,vy]).run P w=.ok v' w'/\M w' (λg=>A g∨w.heap.size<=g) H (.sl t) (.o e none me) (xs++ys) [v'] kF []/\
   (∀ g,g<w.heap.size->¬owx g->w'.heap[g]?=w.heap[g]?)/\(∀ g,kF g->g<w'.heap.size/\(owx g∨Rv g∨w.heap.size<=g))/\w.heap.size<=w'.heap.size/\w'.os=w.os/\w'.tape=w.tape/\w'.output=w.output:=by
 have aqP:xs.length+ys.length<=4398046511104:=vG (Nat.le_mul_of_pos_right _ ZH) agb
 have aqQ:(xs.length+ys.length)*inf.bytes<=140737488355328:=by
  have:(xs.length+ys.length)*inf.bytes<=(xs.length+ys.length)*(32*t.size):=pD _ hby
  have e2:(xs.length+ys.length)*(32*t.size)=32*((xs.length+ys.length)*t.size):=by rw[Nat.mul_left_comm]
  omega
 have anq:Src P inf.size T' vy ys.length news w:=by rw[sW];exact Ox
 have avd:=Ox.one
 have hnl:=Ox.newsLen
 -- the grown row
 have grown:∀ (base:Option Addr) (c:Nat) (olds:List Value) (owo:Nat->Prop) (τ:Nat->Nat),vx=.slice base xs.length c->c<xs.length+ys.length->olds.length=xs.length*t.size->
   (Builtin.firstCells inf.size xs.length vx).run P w.drew=.ok olds.toArray w.drew->(∀ g,owo g->owx g)->
   (∀ (k:Nat) (hk:k<xs.length),M w A H t me xs[k] ((olds.drop (k*t.size)).take t.size) (λg=>owo g/\τ g=k) [])->
   ∃ v' w' kF,(Builtin.append_ #[T,T'] ty #[vx,vy]).run P w=.ok v' w'/\M w' (λg=>A g∨w.heap.size<=g) H (.sl t) (.o e none me) (xs++ys) [v'] kF []/\
   (∀ g,g<w.heap.size->¬owx g->w'.heap[g]?=w.heap[g]?)/\(∀ g,kF g->g<w'.heap.size/\(owx g∨Rv g∨w.heap.size<=g))/\w.heap.size<=w'.heap.size/\w'.os=w.os/\w'.tape=w.tape/\w'.output=w.output:=by
  intro base c olds owo τ hv hc hol agc adY Qh
  subst hv
  have iD:=run_append_grow_src (P:=P) w T T' ty e inf z hu hi hz base xs.length c olds agc vy ys.length news anq hc (by omega) (by
   have h1:=nextslicecap_le hc
   have h2:=aD inf.bytes h1
   rw[Nat.mul_assoc] at h2
   omega)
  have hge:=vH w (xs.length+ys.length) c e
  have hle:=og w (xs.length+ys.length) c e (by simp only[maxLen];omega)
  let pad:=Builtin.zeroCells z.cells (grownCap w (xs.length+ys.length) c e - (xs.length+ys.length))
  have su:∀ g,g<w.heap.size->(w.drew.alloc (.cells ((olds++news).toArray++pad) e)).heap[g]?=w.heap[g]?:=λg hg=>heap_alloc_old w.drew _ g hg
  refine⟨_,w.drew.alloc (.cells ((olds++news).toArray++pad) e),λg=>owo g∨Rv g∨g=w.heap.size,iD,?_,λg hg _=>su g hg,λg hg=>?_,by simp,rfl,rfl,rfl⟩
  ·simp only[M]
   refine .inr (.inr ⟨e,none,me,some ⟨w.heap.size,0,none⟩,grownCap w (xs.length+ys.length) c e,rfl,by rw[au],by rw[au];exact hge,λh hh=>(by cases hh),.inr ⟨w.heap.size,(olds++news).toArray++pad,join Rv xs.length τN τ,rfl,.inr (.inr rfl),ia w.drew _,?_,hle,λj hj=>?_⟩⟩)
   ·simp only[pad,jq,cg,au,size_zeroCells,hzs,hol,hnl,←bg]
    congr 1
    omega
   ·have gy:cR w (w.drew.alloc (.cells ((olds++news).toArray++pad) e)) A (λg=>A g∨w.heap.size<=g):=⟨λg _ hg=>su g hg,λg hg hx=>hx.resolve_right (by omega)⟩
    rw[nI,b5]
    rcases gP j xs.length with hjx |hjx
    ·rw[cN hjx,bA,Um hol hjx]
     refine ca gy t (λg hg hl=>su g hl) (λg hg hl=>⟨.inl hg.1,by omega,?_⟩) (λ_ h=>by simp at h) (Qh j hjx)
     rw[aik (aqO g (adY g hg.1))]
     exact hg.2
    ·have hjy:j - xs.length<ys.length:=by rw[au] at hj;omega
     rw[dN hjx]
     have e1:=aeN (olds:=olds) (news:=news++pad.toList) (s:=t.size) (n:=xs.length) (j:=j - xs.length) hol
     rw[show xs.length+(j - xs.length)=j from by omega,←bA,Um hnl hjy] at e1
     rw[e1]
     refine ca gy t (λg hg hl=>su g hl) (λg hg hl=>⟨.inr (.inl hg.1),by omega,?_⟩) (λ_ h=>by simp at h) (hN (j - xs.length) hjy)
     rw[anp hg.1,hg.2]
     omega
  ·have:(w.drew.alloc (.cells ((olds++news).toArray++pad) e)).heap.size=w.heap.size+1:=by simp
   rcases hg with hg |hg |rfl
   ·exact⟨by have:=hlx g (adY g hg);omega,.inl (adY g hg)⟩
   ·exact⟨by have:=hlN g hg;omega,.inr (.inl hg)⟩
   ·exact⟨by omega,.inr (.inr (aR _))⟩
 -- nothing to append
 have nothing:∀ (base:Option Addr) (c:Nat),vx=.slice base xs.length c->xs.length<=c->ys.length=0->
   ∃ v' w' kF,(Builtin.append_ #[T,T'] ty #[vx,vy]).run P w=.ok v' w'/\M w' (λg=>A g∨w.heap.size<=g) H (.sl t) (.o e none me) (xs++ys) [v'] kF []/\
   (∀ g,g<w.heap.size->¬owx g->w'.heap[g]?=w.heap[g]?)/\(∀ g,kF g->g<w'.heap.size/\(owx g∨Rv g∨w.heap.size<=g))/\w.heap.size<=w'.heap.size/\w'.os=w.os/\w'.tape=w.tape/\w'.output=w.output:=by
  intro base c hv hle h0
  have hys:ys=[]:=ek h0
  subst hys
  have hn0:news=[]:=ek (by simpa using hnl)
  rw[hn0] at anq
  rw[hv] at hx ⊢
  have iD:=run_append_nothing (P:=P) w T T' ty e inf hu hi base xs.length c hle vy anq
  refine⟨_,w,owx,iD,?_,λ_ _ _=>rfl,λg hg=>⟨hlx g hg,.inl hg⟩,aR _,rfl,rfl,rfl⟩
  rw[b6]
  have N9:M w A H (.sl t) (.o e none me) xs [.slice base xs.length c] owx []:=by
   simp only[M] at hx ⊢
   rcases hx with⟨hn,_⟩ |⟨hk,_⟩ |⟨T1,aDI,me1,X,c1,e1,e2,h1,h2,h3⟩
   ·simp at hn
   ·simp[Md.fu] at hk
   ·injection e1 with e1 Uf LB
    subst e1 Uf LB
    exact .inr (.inr ⟨e,none,me,X,c1,rfl,e2,h1,λh hh=>(by cases hh),h3⟩)
  exact ca (w:=w) ⟨λ_ _ _=>rfl,λg hg hx=>hx.resolve_right (by omega)⟩ (.sl t) (λ_ _ _=>rfl) (λg hg _=>hg) (λ_ h=>h) N9
 have hx0:=hx
 simp only[M] at hx
 rcases hx with⟨hn,_⟩ |⟨hk,_⟩ |⟨T1,aDI,me1,X,c,e1,e2,hle,ao2,hx⟩
 ·simp at hn
 ·simp[Md.fu] at hk
 ·injection e1 with e1 Uf LB
  subst e1 Uf LB
  simp only[eB,iO] at e2
  rcases vj ys.length with h0 |h0
  ·exact nothing X c e2 hle h0
  ·rcases hx with⟨hxs,hc⟩ |⟨g,cur,τ,rfl,Ni,hw,wS,hcm,Qh⟩
   ·subst hxs hc
    refine grown X 0 [] (λ_=>False) (λ_=>0) e2 (by simpa using h0) (by simp) ?_ (λ_ h=>h.elim) (λk hk=>by simp at hk)
    rw[e2]
    cases X with
    |none=>exact run_firstCells_none w.drew _ _ _ _
    |some ad=>exact rY w.drew _ _ ad _ _ [] (by simp) (λj u hu=>by simp at hu)
   ·have hbx:xs.length*t.size<=cur.toList.length:=by
     have h1:cur.toList.length=cur.size:=bT
     have h2:=aD t.size hle
     omega
    have C1:cur.toList.length=cur.size:=bT
    by_cases Oy:xs.length+ys.length<=c
    ·-- room
     have R4:xs.length*t.size+news.length<=cur.size:=by
      rw[hnl,wS,←bg]
      exact aD _ Oy
     have iD:=run_append_room_src (P:=P) w T T' ty e inf hu hi g 0 xs.length c vy ys.length news anq Oy (λj hj=>by
      have:xs.length*inf.size+j<cur.size:=by rw[sW];omega
      simp[World.cell?,hw,this]) (λj hj=>by simp[World.frozen?,hw])
     rw[aW,sW,mJ hw R4 avd] at iD
     have su:∀ k,k≠g->(w.setRow g (putCells cur.toList (xs.length*t.size) news).toArray).heap[k]?=w.heap[k]?:=λk hk=>kR w g k _ hk
     refine⟨_,w.setRow g (putCells cur.toList (xs.length*t.size) news).toArray,λk=>owx k∨Rv k,by rw[e2];exact iD,?_,λk _ hk=>su k (λe'=>hk (by rw[e'];exact Ni)),λk hk=>?_,by rw[jM];exact aR _,rfl,rfl,rfl⟩
     ·simp only[M]
      refine .inr (.inr ⟨e,none,me,some ⟨g,0,none⟩,c,rfl,by rw[au],by rw[au];exact Oy,λh hh=>(by cases hh),.inr ⟨g,(putCells cur.toList (xs.length*t.size) news).toArray,join Rv xs.length τN τ,rfl,.inl Ni,iw w g cur _ e (0,0) hw,?_,hcm,λj hj=>?_⟩⟩)
      ·rw[cg,yK _ _ _ (by omega),C1,wS]
      ·have gy:cR w (w.setRow g (putCells cur.toList (xs.length*t.size) news).toArray) A (λg=>A g∨w.heap.size<=g):=⟨λk hk _=>su k (λe'=>hk (by rw[e'];exact hxA g Ni)),λk hk hx=>hx.resolve_right (by omega)⟩
       rw[b5]
       have htl:(cur.toList.take (xs.length*t.size)).length=xs.length*t.size:=by rw[aH];omega
       have ao3:putCells cur.toList (xs.length*t.size) news=cur.toList.take (xs.length*t.size)++(news++cur.toList.drop (xs.length*t.size+news.length)):=by unfold putCells;rw[bA]
       rcases gP j xs.length with hjx |hjx
       ·have wc:((putCells cur.toList (xs.length*t.size) news).drop (j*t.size)).take t.size=(cur.toList.drop (j*t.size)).take t.size:=by rw[ao3,Um htl hjx,LA hjx]
        rw[cN hjx,wc]
        refine ca gy t (λk hk hl=>su k hk.2.1) (λk hk hl=>⟨.inl hk.1,hk.2.1,?_⟩) (λ_ h=>h) (Qh j hjx)
        rw[aik (aqO k hk.1)]
        exact hk.2.2
       ·have hjy:j - xs.length<ys.length:=by rw[au] at hj;omega
        rw[dN hjx]
        have e1:=aeN (olds:=cur.toList.take (xs.length*t.size)) (news:=news++cur.toList.drop (xs.length*t.size+news.length)) (s:=t.size) (n:=xs.length) (j:=j - xs.length) htl
        rw[show xs.length+(j - xs.length)=j from by omega,Um hnl hjy] at e1
        rw[←ao3] at e1
        rw[e1]
        have hgN:∀ k,Rv k->k≠g:=λk hk e'=>aqO g Ni (by rw[←e'];exact hk)
        refine ca gy t (λk hk hl=>su k (hgN k hk.1)) (λk hk hl=>⟨.inr hk.1,hgN k hk.1,?_⟩) (λ_ h=>by simp at h) (hN (j - xs.length) hjy)
        rw[anp hk.1,hk.2]
        omega
     ·rw[jM]
      rcases hk with hk |hk
      ·exact⟨hlx k hk,.inl hk⟩
      ·exact⟨hlN k hk,.inr (.inl hk)⟩
    ·refine grown (some ⟨g,0,none⟩) c (cur.toList.take (xs.length*t.size)) (λk=>owx k/\k≠g) τ e2 (by omega) (by rw[aH];omega) ?_ (λk hk=>hk.1) (λk hk=>?_)
     ·rw[e2,sW]
      refine rY w.drew _ _ ⟨g,0,none⟩ _ _ _ (by rw[aH];omega) (λj u hu=>?_)
      rw[AT]
      have hj:j<xs.length*t.size:=by
       have:=(bO.1 hu).1
       rw[aH] at this
       omega
      rw[bQ,aA hj] at hu
      have hw':w.drew.heap[g]?=some (.cells cur e (0,0)):=hw
      simp only[World.cell?,hw',aW]
      rw[←bK]
      exact hu
     ·rw[LA hk]
      exact ca (cR.refl _ _) t (λ_ _ _=>rfl) (λg' dU _=>⟨⟨dU.1,dU.2.1⟩,dU.2.2⟩) (λ_ h=>h) (Qh k hk)
end Go.Pv
namespace Go.Pv
open List Int IntKind
variable {P:Program} {w w':World} {A A' Wr:Nat->Prop} {H:Nat->Value} {tm Nj:Nat->Value} {S S' S1:St} {σ eK lR:Nat->Option Nat} {w0:World} {W0 Z:Nat->Prop} {a:Act} {own:Nat->Prop} {v:Value} {Θ:nh} {dst:Option Nat}
def KS (w:World) (A:Nat->Prop) (t:Ty) (xs:List t.I) (cs:List Value):Prop:=∃ X c,cs=[.slice X xs.length c]/\xs.length<=c/\(0<xs.length->∃ g off cur T fr,X=some ⟨g,off,none⟩/\w.heap[g]?=some (.cells cur T fr)/\off+xs.length*t.size<=cur.size/\∀ j (h:j<xs.length),K w A t xs[j] ((cur.toList.drop (off+j*t.size)).take t.size))
theorem ayG {t:Ty} {m:Md} {xs:List t.I} {cs:List Value} {ow:Nat->Prop} (hk:m.inn.fu=true) (h:M w A H (.sl t) m xs cs ow []):KS w A t xs cs:=by
 simp only[M] at h;rcases h with⟨hn,_⟩ |⟨_,h⟩ |⟨T,tag,me,X,c,rfl,rfl,hc,ht,h⟩
 ·simp at hn
 ·simp only[K] at h;obtain⟨X,c,rfl,hc,h⟩:=h;refine⟨X,c,rfl,hc,λhp=>?_⟩;obtain⟨g,off,cur,T,fr,h1,_,h2,h3,h4⟩:=h hp;exact⟨g,off,cur,T,fr,h1,h2,h3,h4⟩
 refine⟨X,c,rfl,hc,λhp=>?_⟩;rcases h with⟨rfl,_⟩ |⟨g,cur,τ,rfl,Ni,hw,sW,hm,h⟩
 ·simp at hp
 refine⟨g,0,cur,T,(0,0),rfl,hw,?_,λj hj=>?_⟩
 ·have:=aD t.size hc;omega
 rw[aW];exact tJ t hk (h j hj)
theorem ayH (h:KS w A t xs [.slice X xs.length c]) (h1:lo<=hi) (h2:hi<=xs.length):
  KS w A t ((xs.take hi).drop lo) [.slice (if c=lo then X else X.map (·.add (lo*t.size))) (hi - lo) (c - lo)]:=by
 obtain⟨X',c',e,hc,h⟩:=h
 simp only[eB,fx,iO,cp] at e
 obtain⟨rfl,rfl⟩:=e
 have hl:((xs.take hi).drop lo).length=hi - lo:=by rw[a8,aH];omega
 refine⟨_,_,by rw[hl],by omega,λhp=>?_⟩
 rw[hl] at hp
 obtain⟨g,off,cur,T,fr,rfl,hw,ho,hj⟩:=h (by omega)
 have e1:(lo+(hi - lo))*t.size<=xs.length*t.size:=aD _ (by omega)
 rw[bg] at e1
 refine⟨g,off+lo*t.size,cur,T,fr,?_,hw,by rw[hl];omega,λj hj1=>?_⟩
 rotate_left
 ·have Mt:j<hi - lo:=by rw[←hl];exact hj1
  have:=hj (lo+j) (by omega)
  rw[show((xs.take hi).drop lo)[j]=xs[lo+j]'(by omega) from by simp]
  rw[show off+lo*t.size+j*t.size=off+(lo+j)*t.size from by rw[bg];omega]
  exact this
 ·rw[aq (by omega)]
  simp only[aS,AT]
theorem ail (h:dp σ w0 W0 Z H S a w) {av:AV} {t:Ty} {m:Md} {ys:List t.I} (hh:Holds w (Av σ Z) H (gV a) S own av v) (e:S.PK av=some ⟨.sl t,m,ys⟩) (hk:m.inn.fu=true): KS w (Av σ Z) t ys [v]:=by
 cases av with
 |v a ex=>
  cases ex with
  |cons _ _=>simp[St.PK] at e
  |nil=>
  simp only[St.PK,ah] at e;subst e;obtain⟨cs,h1,h2⟩:=hh;have:cs=[v]:=by simpa[a7,isAgg] using h1
  subst this;exact ayG hk h2
 |al t1 s p=>
 simp only[St.PK] at e;obtain⟨r,lB,cs,hr,hc,hm⟩:=hh;obtain⟨rfl,kF,k2,k3⟩:=nk h hr hc e;have:cs=[v]:=by simpa[a7,isAgg] using hm
 subst this;exact ayG hk k3
 |cut t1 s p lo hi=>
  simp only[St.PK] at e;obtain⟨r,lB,t',X,n,c,hr,rfl,hc,hlo,hhi,rfl⟩:=hh;cases hp:S.place s p with
  |none=>rw[hp] at e;cases e
  |some b'=>obtain⟨ht,kF,k2,k3⟩:=nk h hr hc hp;obtain⟨bt,bm,bx⟩:=b';simp only at ht;subst ht;rw[hp] at e;simp only[ah] at e;injection e with e1 e2 e3;injection e1 with e1;subst e1 e2;simp only[heq_eq_eq] at e3;subst e3;have hK:=ayG hk k3;have hn:n=length bx:=(by obtain⟨_,_,e,_⟩:=hK;simp only[eB,fx,iO] at e;exact e.2.1);subst hn;exact ayH hK hlo hhi
 |_=>simp[St.PK] at e
theorem LC {s:Nat} {Q:Value->Prop} {l:List Value}:∀ (n:Nat),(∀ j,j<n->∀ u∈(l.drop (j*s)).take s,Q u)->∀ u∈l.take (n*s),Q u
 |0,_,u,hu=>by simp at hu
 |n+1,h,u,hu=>by
  rw[bg,cM,List.take_add] at hu;rcases bd.1 hu with hu |hu
  ·exact LC n (λj hj=>h j (by omega)) u hu
  exact h n (by omega) u hu
theorem aqR (hk:P.underlying T'=some (.slice e')) (h:KS w A t ys [vy]): ∃ news,Src P t.size T' vy ys.length news w/\∀ (k:Nat) (hk:k<ys.length),K w A t ys[k] ((news.drop (k*t.size)).take t.size):=by
 obtain⟨X,c,e,hc,h⟩:=h;simp only[eB,iO] at e;obtain⟨news,h1,h2⟩:=ak7 (P:=P) (w:=w) (t:=t) (ys:=ys) (vy:=vy) hk rfl ⟨X,c,e,λhp=>by
  obtain⟨g,off,cur,T,fr,rfl,hw,hb,hj⟩:=h hp
  refine⟨g,off,cur,T,fr,rfl,hw,hb,LC _ λj hj1 u hu=>?_⟩
  rw[ef] at hu
  exact(Fq t (hj j hj1)).2 u hu⟩
 refine⟨news,h1,λk hk=>?_⟩;obtain⟨g,off,cur,T,fr,rfl,hw,hb,hj⟩:=h (by omega);rw[h2 g off cur T fr _ c e rfl hw (by omega),LA hk,ef];exact hj k hk
theorem Se (hT:ke P Θ=true) {T0:TypeId} {i:TI} (hi:Θ.find T0=some i) {t:Ty} (rS:i.ty=.sl t) {o:Oper} {x y:Operand} {T':TypeId} {tag:Option Nat} {me:Md} {xs ys:List t.I} {owx Rv:Nat->Prop} {τN:Nat->Nat} {news:List Value} {n:Nat} (ho:o.op=.call { callee:=.builtin .append,args:=#[x,y],argTypes:=#[T0,T'] }) (h2:dp lR w0 W0 Z H S1 a w) (hS1:S1.length=n) (hA:A=Av lR Z) (hx:M w A H (.sl t) (.o i.e tag me) xs [a.eval x] owx []) (Ox:Src P t.size T' (a.eval y) ys.length news w) (hN:∀ (k:Nat) (hk:k<ys.length),M w A H t me ys[k] ((news.drop (k*t.size)).take t.size) (λg=>Rv g/\τN g=k) []) (aqO:∀ g,owx g->¬Rv g) (Uk:∀ g,owx g∨Rv g->∃ i,n<=i/\lR g=some i) (agb:(xs.length+ys.length)*t.size<=4398046511104): ad2 P w0 W0 Z H (S1.put o.dst (.v ⟨.sl t,.o i.e none me,xs++ys⟩ [])) a o.dst w (execOp a.eval o):=by
 subst hA hS1;obtain⟨_,hu,hT0⟩:=kP hT hi;obtain⟨u1,u2,u3⟩:=Gs hu rS;rw[hT0] at u1;obtain⟨i2,AY,ht2⟩:=pC u2;obtain⟨⟨sm,inf,z,k1,k2,kb,_,_,k3,k4⟩,_,hte⟩:=kP hT AY;rw[hte] at k1;rw[ht2] at k2 k4 kb;have gU:∀ g,owx g∨Rv g->g<w.heap.size:=λg hg=>by obtain⟨i,_,hi⟩:=Uk g hg;exact h2.lt g i hi
 have hz1:z.cells.size=t.size:=by
  unfold a7 at k4;split at k4
  ·rw[k4,Value.cells,cg,Iz]
  rename_i hag;have hl:=Iz t;rw[k4] at hl;have hv:∀ (t:Ty),∀ u∈zc t,u.oneCell'=true:=by
   intro t;induction t with
   |pair a b iha ihb=>intro u hu;simp only[zc,bd] at hu;rcases hu with hu |hu;exact iha u hu;exact ihb u hu
   |arr n t ih=>intro u hu;simp only[zc,xy] at hu;obtain⟨c,hc,hu⟩:=hu;rw[List.eq_of_mem_replicate hc] at hu;exact ih u hu
   |unit=>intro u hu;simp[zc] at hu
   |_=>intro u hu;simp only[zc,bu] at hu;subst hu;rfl
  have h1:=hv t z (by rw[k4];simp);have:z.cells=#[z]:=(by cases z<;>first |rfl |simp[Value.oneCell'] at h1);rw[this];simpa using hl
 obtain⟨v',w',kF,r1,r2,r3,r4,r5,r6,r7,r8⟩:=Un (ty:=o.type) hT u1 k1 k3 k2 kb hz1 u3 hx Ox hN aqO (λg hg=>by
  obtain⟨i,_,hi⟩:=Uk g (.inl hg)
  exact .inl ⟨i,hi⟩) (λg hg=>gU g (.inl hg)) (λg hg=>gU g (.inr hg)) agb
 refine⟨w',v',.inl ?_,_,h2.axw (b:=⟨.sl t,.o i.e none me,xs++ys⟩) (cs:=[v']) (ow:=kF) (A':=λg=>Av lR Z g∨w.heap.size<=g) r5 (λg hg hn=>r3 g hg (λhx=>?_)) ?_ (λg hg=>?_) (λg hg hx=>?_) (by simp[a7,isAgg]) r2⟩
 ·simp[execOp,ho,resolve,invoke,builtin,r1]
 ·obtain⟨i,hi1,AY⟩:=Uk g (.inl hx);exact hn i hi1 AY
 ·refine⟨by rw[r6];exact h2.fr.os,by rw[r7];exact h2.fr.tape,by rw[r8];exact h2.fr.output,vG h2.fr.size r5,λg hg hn=>?_⟩;rw[r3 g (by have:=h2.fr.size;omega) (λhx=>?_)]
  ·exact h2.fr.block g hg hn
  obtain⟨i,_,hi⟩:=Uk g (.inl hx);rcases h2.new g i hi with h1 |h1
  ·omega
  exact hn h1
 ·obtain⟨q1,q2⟩:=r4 g hg;refine⟨q1,?_⟩;rcases q2 with q2 |q2 |q2
  ·exact .inl (Uk g (.inl q2))
  ·exact .inl (Uk g (.inr q2))
  exact .inr q2
 rcases hx with hx |hx
 ·exact .inl hx
 rcases(r4 g hx).2 with q2 |q2 |q2
 ·obtain⟨i,_,hi⟩:=Uk g (.inl q2);exact .inl (.inl ⟨i,hi⟩)
 ·obtain⟨i,_,hi⟩:=Uk g (.inr q2);exact .inl (.inl ⟨i,hi⟩)
 exact .inr q2
theorem ao5 (hT:ke P Θ=true) (h:dp σ w0 W0 Z H S a w) {o:Oper} {as:Array Operand} {ts:Array TypeId} (ho:o.op=.call { callee:=.builtin .append,args:=as,argTypes:=ts }) (e:iN Θ S o.dst ts.toList as.toList=some (true,S')):ad2 P w0 W0 Z H S' a o.dst w (execOp a.eval o):=by
 obtain⟨as⟩:=as;obtain⟨ts⟩:=ts;simp only at e;unfold iN at e;split at e;case h_2=>cases e
 rename_i x y T T';split at e;case h_2=>cases e
 rename_i t e0 tag me xs S1 i hb hi;unfold St.take at hb;split at hb;case h_2=>cases hb
 rename_i av pU;obtain⟨eK,cs,ow,h1,hm,hM,hk,hn⟩:=rX h pU hb;cases hc:(decide (i.ty=.sl t)&&Nat.beq i.e e0&&Θ.is T' (.sl t)) with
 |false=>rw[hc] at e;cases e
 |true=>rw[hc] at e;simp only[ab] at e;simp only[ai,ax] at hc;obtain⟨⟨rS,hee⟩,hT'⟩:=hc;have hee:=aw hee;subst hee;have wS:cs=[a.eval x]:=(by simpa[a7,isAgg] using hm);subst wS;obtain⟨i',hi',aqL⟩:=pC hT';obtain⟨_,PO,hT1⟩:=kP hT hi';obtain⟨u1,_,_⟩:=Gs PO aqL;rw[hT1] at u1;have aDJ:cR w w (Av σ Z) (Av eK Z):=⟨λ_ _ _=>rfl,λg _ hg=>hk.Av.1 hg⟩;cases hme:me.fu with
 |true=>
  rw[hme] at e;simp only[ab] at e;split at e;case h_2=>cases e
  rename_i t' m' ys hy;cases hmi:m'.inn.fu with
  |false=>rw[hmi] at e;cases e
  |true=>
  rw[hmi] at e;simp only[ab] at e;split at e;case isFalse=>cases e
  rename_i htt;subst htt;simp only[ah,aG,ax] at e;obtain⟨agb,rfl⟩:=e;unfold St.rd at hy;split at hy;case h_2=>cases hy
  rename_i av2 aid;have hKS:=ail h1 (eU h1 aid) hy hmi;obtain⟨news,Ox,Qh⟩:=aqR (P:=P) u1 hKS;refine Se (n:=S1.length) (A:=Av eK Z) (owx:=ow) (Rv:=λ_=>False) (τN:=λ_=>0) hT hi rS ho h1 rfl rfl (ca aDJ _ (λ_ _ _=>rfl) (λ_ h _=>h) (λ_ h=>h) hM) Ox (λk uI=>KO hme (Qh k uI)) (λ_ _ h=>h) (λg hg=>?_) agb;rw[hn];exact hk.now g (hg.resolve_right id)
 |false=>
 rw[hme] at e;simp only[ae] at e;split at e;case h_2=>cases e
 rename_i t' m' ys S2 hy;split at e;case isFalse=>cases e
 rename_i htt;subst htt;split at e;case isFalse=>cases e
 rename_i hmi;simp only[ah,aG,ax] at e;obtain⟨agb,rfl⟩:=e;unfold St.take at hy;split at hy;case h_2=>cases hy
 rename_i av2 aid;obtain⟨lR,cs2,Lv,h2,hm2,hM2,hk2,hn2⟩:=rX h1 aid hy;rw[hn] at hk2 hn2;have wS:cs2=[a.eval y]:=by simpa[a7,isAgg] using hm2
 subst wS;have ayI:cR w w (Av eK Z) (Av lR Z):=⟨λ_ _ _=>rfl,λg _ hg=>hk2.Av.1 hg⟩;have aBi:M w (Av lR Z) H (.sl t') m' ys [a.eval y] Lv []:=ca ayI _ (λ_ _ _=>rfl) (λ_ h _=>h) (λ_ h=>h) hM2;have hM':M w (Av lR Z) H (.sl t') (.o i.e tag me) xs [a.eval x] ow []:=ca ⟨λ_ _ _=>rfl,λg _ hg=>hk.Av.1 (hk2.Av.1 hg)⟩ _ (λ_ _ _=>rfl) (λ_ h _=>h) (λ_ h=>h) hM;have Uk:∀ g,ow g∨Lv g->∃ i,S.length<=i/\lR g=some i:=λg hg=>(hk.trans hk2).now g hg;simp only[M] at aBi;rcases aBi with⟨hn0,_⟩ |⟨hK,_⟩ |⟨T2,aia,me2,X,c,rfl,e2,hle,ao2,Qh⟩
 ·simp at hn0
 ·rw[←hmi] at hme;rw[MA hK] at hme;cases hme
 simp only[Md.inn] at hmi;subst hmi;simp only[eB,iO] at e2;have Ox:∃ (Rv:Nat->Prop) (τN:Nat->Nat) (news:List Value),Src P t'.size T' (a.eval y) ys.length news w/\(∀ g,Rv g->Lv g)/\
   ∀ (k:Nat) (hk:k<ys.length),M w (Av lR Z) H t' me2 ys[k] ((news.drop (k*t'.size)).take t'.size) (λg=>Rv g/\τN g=k) []:=by
  rcases Qh with⟨hys,_⟩ |⟨g,cur,τ,hX,Ni,hw,sW,aBh,Qh⟩
  ·subst hys
   obtain⟨news,s1,_⟩:=ak7 (P:=P) (w:=w) (t:=t') (ys:=([]:List t'.I)) (vy:=a.eval y) u1 rfl ⟨X,c,e2,λhp=>by simp at hp⟩
   exact⟨λ_=>False,λ_=>0,news,s1,λ_ h=>h.elim,λk hk=>by simp at hk⟩
  ·subst hX
   have C1:cur.toList.length=cur.size:=bT
   have hb:=aD t'.size hle
   obtain⟨news,s1,s2⟩:=ak7 (P:=P) (w:=w) (t:=t') (ys:=ys) (vy:=a.eval y) u1 rfl ⟨some ⟨g,0,none⟩,c,e2,λhp=>⟨g,0,cur,T2,(0,0),rfl,hw,by omega,LC _ λj hj u hu=>by
    rw[dX] at hu
    exact(rK t' (Qh j hj)).2 u hu⟩⟩
   refine⟨λg'=>Lv g'/\g'≠g,τ,news,s1,λ_ h=>h.1,λk hk=>?_⟩
   rw[s2 g 0 cur T2 (0,0) _ c e2 rfl hw (by omega),LA hk,dX]
   exact ca (cR.refl _ _) t' (λ_ _ _=>rfl) (λg' dU _=>⟨⟨dU.1,dU.2.1⟩,dU.2.2⟩) (λ_ h=>h) (Qh k hk)
 obtain⟨Rv,τN,news,s1,s2,s3⟩:=Ox;exact Se (n:=S.length) (A:=Av lR Z) (owx:=ow) (Rv:=Rv) (τN:=τN) hT hi rS ho h2 hn2 rfl hM' s1 s3 (λg hg MD=>hk.apart hk2 hg (s2 g MD)) (λg hg=>Uk g (hg.imp id (s2 g))) agb
end Go.Pv
namespace Go.Pv
open List Int IntKind
variable {P:Program} {w w':World} {A A' Wr:Nat->Prop} {H:Nat->Value} {tm Nj:Nat->Value} {S S' S1:St} {σ eK:Nat->Option Nat} {w0:World} {W0 Z:Nat->Prop} {a:Act} {own:Nat->Prop} {v:Value} {Θ:nh} {dst:Option Nat}
theorem abu (h:∀ q∈ex,Mv q p=false):TQ p ex=[]:=by
 have key:∀ (p r:Path),Mv (p++r) p=true:=by
  intro p;induction p with
  |nil=>intro r;cases r<;>rfl
  |cons a p ih=>intro r;cases a<;>simp[Mv,ih]
 apply List.eq_nil_iff_forall_not_mem.2;intro q hq;have:=h _ (aaV.1 hq);rw[key] at this;cases this
theorem Oz (h:dp σ w0 W0 Z H S a w) {vv:Value} {t:Ty} {s:Nat} {p:Path} (hpc:p≠[]) {r:TV} {ex:List Path} {b:TV} (hh:Holds w (Av σ Z) H (gV a) S own (.al t s p) vv) (hs:S.at s=.v r ex) (hg:dP p r.t r.m r.x=some b) (hk:b.m.fu=false) (C1:∀ q∈ex,Mv q p=false):
  ∃ eK cs ow,dp eK w0 W0 Z H (((S.weaken s).cover s p).set s (.v r (ex++[p]))) a w/\a7 b.t vv cs/\M w (Av eK Z) H b.t b.m b.x cs ow []/\vY σ eK S.length ow/\(((S.weaken s).cover s p).set s (.v r (ex++[p]))).length=S.length:=by
 obtain⟨r0,lB,cs,hr,hc,hm⟩:=hh
 obtain⟨ex0,b2,kY,ow0,j1,j2,j3,j4,hM,j5,j6,j7⟩:=u6 h hr
 rw[hs] at j1
 injection j1 with j1 j1'
 subst j1 j1'
 have j1:=hs
 rw[hg] at j3
 injection j3 with j3
 subst j3
 have j3:=hg
 obtain⟨cs2,kF,k1,k2,k3,k4⟩:=aeJ p hM j2 hr.val j3 hk
 rw[hc] at k1
 injection k1 with k1
 subst k1
 rw[abu C1] at k3
 -- the ownership without what is taken
 have aqC:s<S.length:=qF (by rw[j1];exact λe=>by cases e)
 let eK:Nat->Option Nat:=λg=>open Classical in if kF g then some S.length else σ g
 have abo:∀ g i,eK g=some i->∃ k,σ g=some k:=by
  intro g i hg
  simp only[eK] at hg
  split at hg
  ·exact⟨s,k2 g (by assumption)⟩
  ·exact⟨i,hg⟩
 have abp:∀ g i,σ g=some i->¬kF g->eK g=some i:=by
  intro g i hg hn
  simp only[eK,aq hn,hg]
 have gy:cR w w (Av σ Z) (Av eK Z):=⟨λ_ _ _=>rfl,λg _ hg=>by
  rcases hg with⟨i,hg⟩ |hg
  ·exact .inl (abo g i hg)
  ·exact .inr hg⟩
 have aqD:vY σ eK S.length kF:=by
  refine⟨λg hg=>⟨s,aqC,k2 g hg⟩,λg hg=>⟨_,aR _,by simp only[eK,aA hg]⟩,λg i hg hi=>?_,λg=>⟨λ⟨i,hg⟩=>abo g i hg,λ⟨i,hg⟩=>?_⟩,λg i hg hi=>abp g i hg (λhx=>?_)⟩
  ·simp only[eK] at hg
   split at hg
   ·injection hg with hg;omega
   ·exact hg
  ·simp only[eK]
   split
   ·exact⟨_,rfl⟩
   ·exact⟨i,hg⟩
  ·have:=k2 g hx
   rw[hg] at this
   injection this with this
   omega
 refine⟨eK,cs,kF,?_,by rw[j4];exact hm,ca gy _ (λ_ _ _=>rfl) (λ_ h _=>h) (λ_ h=>h) k3,aqD,by simp[St.weaken,St.cover]⟩
 have hlen:((S.weaken s).cover s p).length=S.length:=by simp[St.weaken,St.cover]
 have ZG:s<S.length:=by
  rcases gP s S.length with hl |hl
  ·exact hl
  ·unfold St.at at j1
   rw[aF,cA hl] at j1
   cases j1
 have Xz:St.at (((S.weaken s).cover s p).set s (.v r (ex++[p]))) s=.v r (ex++[p]):=by rw[kN,aA ⟨rfl,by rw[hlen];exact ZG⟩]
 have Gp:∀ i,i≠s->St.at (((S.weaken s).cover s p).set s (.v r (ex++[p]))) i=(match (bif (S.at i).qE s then AV.dead else S.at i) with
   | .ad t s' q=>bif Nat.beq s' s&&under p q then .dead else .ad t s' q
   |a=>a):=by
  intro i hi
  rw[kN,aq (λe=>hi e.1),abn,zO]
  try (cases (bif AV.qE s (S.at i) then AV.dead else S.at i)<;>rfl)
 refine⟨by simp only[br,hlen];exact h.len,h.defers,h.fr,λg i hg=>(abo g i hg).elim λk hk=>h.new g k hk,λg i hg=>(abo g i hg).elim λk hk=>h.lt g k hk,λg hg=>⟨?_,(h.old g hg).2⟩,λi=>?_⟩
 ·simp only[eK]
  split
  ·rename_i hx
   have:=k2 g hx
   rw[(h.old g hg).1] at this
   cases this
  ·exact(h.old g hg).1
 ·by_cases his:i=s
  ·subst his
   rw[Xz]
   exact⟨lB,hr.mat,ca gy _ (λ_ _ _=>rfl) (λg hg _=>abp g _ hg.1 hg.2) (λ_ h=>h) k4⟩
  ·rw[Gp i his]
   cases Ms:(S.at i).qE s with
   |true=>trivial
   |false=>
    simp only[ae]
    have hi:=h.holds i
    have base:Holds w (Av eK Z) H (gV a) S (λg=>eK g=some i) (S.at i) (gV a i):=
     hi.kept gy (λg hg _=>⟨rfl,abp g i hg (λhx=>his (by have:=k2 g hx;rw[hg] at this;injection this))⟩) (λs' _=>⟨λ_ _ h=>h,rfl,_,h.holds s',λ_ _ _=>rfl⟩)
    have hSv:∀ j r' ex',j≠s->S.at j=.v r' ex'->St.at (((S.weaken s).cover s p).set s (.v r (ex++[p]))) j=.v r' ex':=by
     intro j r' ex' hj hv
     rw[Gp j hj,hv]
     simp[AV.qE]
    cases tL:S.at i with
    |v b3 ex3=>
     rw[tL] at base
     obtain⟨c3,l1,l2⟩:=base
     exact⟨c3,l1,l2⟩
    |PJ l=>
     rw[tL] at base
     exact base
    |ad t' s' q=>
     rw[tL] at base Ms
     simp only
     cases ayx:(Nat.beq s' s&&under p q) with
     |true=>trivial
     |false=>
      simp only[ae]
      refine wi j1 hSv Xz Ms (λt2 q2 e2=>?_) base (λ_ _ e=>by cases e) (λ_ e=>by cases e)
      injection e2 with _ e3 e4
      subst e3 e4
      simpa using ayx
    |dead=>trivial
    |undef=>rw[tL] at base;exact base
    |al t' s' q=>
     rw[tL] at base Ms
     exact wi j1 hSv Xz Ms (λt2 q2 e2=>by cases e2) base (λ_ _ e=>by cases e) (λ_ e=>by cases e)
    |cut t' s' q lo hi'=>
     rw[tL] at base Ms
     exact wi j1 hSv Xz Ms (λt2 q2 e2=>by cases e2) base (λ_ _ e=>by cases e) (λ_ e=>by cases e)
    |EY f kE=>
     rw[tL] at base Ms
     exact wi j1 hSv Xz Ms (λt2 q2 e2=>by cases e2) base (λ_ _ e=>by cases e) (λ_ e=>by cases e)
theorem ak9 (h:dp σ w0 W0 Z H S a w) {x:Operand} {t:Ty} {s:Nat} {p:Path} (hpc:p≠[]) {r:TV} {ex:List Path} {b:TV} (hh:Holds w (Av σ Z) H (gV a) S own (.al t s p) (a.eval x)) (hs:S.at s=.v r ex) (hg:dP p r.t r.m r.x=some b) (hk:b.m.fu=false) (C1:∀ q∈ex,Mv q p=false): ∃ eK cs ow,dp eK w0 W0 Z H (((S.weaken s).cover s p).set s (.v r (ex++[p]))) a w/\a7 b.t (a.eval x) cs/\M w (Av eK Z) H b.t b.m b.x cs ow []/\vY σ eK S.length ow/\(((S.weaken s).cover s p).set s (.v r (ex++[p]))).length=S.length:=Oz h hpc hh hs hg hk C1
theorem ak' (hT:ke P Θ=true) (h:dp σ w0 W0 Z H S a w) (ho:o.op=.call { callee:=.builtin .append,args:=as,argTypes:=ts }) (e:u5 Θ S o.dst ts.toList as.toList=some (true,S')):ad2 P w0 W0 Z H S' a o.dst w (execOp a.eval o):=by
 obtain⟨as⟩:=as;obtain⟨ts⟩:=ts;simp only at e;unfold u5 at e;split at e;case h_2=>cases e
 rename_i x y T T';split at e;case h_2=>cases e
 rename_i tt s st pp pU;split at e;case h_2=>cases e
 rename_i r ex hs;split at e;case h_2=>cases e
 rename_i t e0 tag me xs i hg hi;cases hc:(decide (i.ty=.sl t)&&Nat.beq i.e e0&&Θ.is T' (.sl t)&&me.fu) with
 |false=>rw[hc] at e;cases e
 |true=>
  rw[hc] at e;simp only[ab] at e;simp only[ai,ax] at hc;obtain⟨⟨⟨rS,hee⟩,hT'⟩,hme⟩:=hc;have hee:=aw hee;subst hee;split at e;case h_2=>cases e
  rename_i t' m' ys hy;cases hmi:m'.inn.fu with
 |false=>rw[hmi] at e;cases e
 |true=>
 rw[hmi] at e;simp only[ab] at e;split at e;case isFalse=>cases e
 rename_i htt;subst htt;simp only[ah,aG,ai,ax] at e;obtain⟨⟨C1,agb⟩,rfl⟩:=e;obtain⟨eK,cs,ow,h1,hm,hM,hk,hn⟩:=ak9 (x:=x) h (by simp) (eU h pU) hs hg (by simp[Md.fu]) (λq hq=>by simpa using aO.1 C1 q hq);have wS:cs=[a.eval x]:=by simpa[a7,isAgg] using hm
 subst wS;obtain⟨i',hi',aqL⟩:=pC hT';obtain⟨_,PO,hT1⟩:=kP hT hi';obtain⟨u1,_,_⟩:=Gs PO aqL;rw[hT1] at u1;unfold St.rd at hy;split at hy;case h_2=>cases hy
 rename_i av2 aid;have hKS:=ail h1 (eU h1 aid) hy hmi;obtain⟨news,Ox,Qh⟩:=aqR (P:=P) u1 hKS;refine Se (n:=S.length) (A:=Av eK Z) (owx:=ow) (Rv:=λ_=>False) (τN:=λ_=>0) hT hi rS ho h1 hn rfl hM Ox (λk uI=>KO hme (Qh k uI)) (λ_ _ h=>h) (λg hg=>?_) agb;exact hk.now g (hg.resolve_right id)
end Go.Pv
namespace Go.Pv
open List Int IntKind
variable {P:Program} {w w':World} {A A' Wr:Nat->Prop} {H:Nat->Value} {tm Nj:Nat->Value} {S S' S1:St} {σ eK lR:Nat->Option Nat} {w0:World} {W0 Z:Nat->Prop} {a:Act} {own:Nat->Prop} {v:Value} {Θ:nh} {dst:Option Nat}
theorem dp.setAt (h:dp σ w0 W0 Z H S a w) (Qi:∀ j,j≠i->(S.at j).refs i=false) (hv:Holds w (Av σ Z) H (gV a) (S.set i av) (λg=>σ g=some i) av (gV a i)): dp σ w0 W0 Z H (S.set i av) a w:=by
 refine⟨by rw[br];exact h.len,h.defers,h.fr,h.new,h.lt,h.old,λj=>?_⟩;rw[kN];by_cases hj:j=i/\i<S.length
 ·rw[aA hj,hj.1];exact hv
 rw[aq hj];by_cases HE:j=i
 ·have:S.at j=.dead:=cd λhx=>hj ⟨HE,by rw[←HE];exact qF hx⟩;rw[this];trivial
 refine(h.holds j).kept (cR.refl _ _) (λg hg _=>⟨rfl,hg⟩) (λs hs=>?_);have hsi:s≠i:=λe=>by subst e;rw[Qi j HE] at hs;cases hs
 exact⟨λr ex hr=>by rw[kN,aq (λe=>hsi e.1)];exact hr,rfl,_,h.holds s,λ_ _ _=>rfl⟩
theorem dp.part (h:dp σ w0 W0 Z H S a w) (hi:∀ r ex,S.at i≠ .v r ex) (hl:i<S.length) {Q:Nat->Prop} (hv:Holds w (Av σ Z) H (gV a) (S.set i av) (λg=>σ g=some i/\ ¬Q g) av (gV a i)): ∃ eK,dp eK w0 W0 Z H (S.set i av) a w/\vY σ eK S.length (λg=>σ g=some i/\Q g):=by
 let eK:Nat->Option Nat:=λg=>open Classical in if σ g=some i/\Q g then some S.length else σ g
 have hs:∀ g j,eK g=some j->∃ k,σ g=some k:=λg j hg=>by
  simp only[eK] at hg;split at hg
  ·rename_i hx;exact⟨i,hx.1⟩
  exact⟨j,hg⟩
 have J1:∀ g j,σ g=some j->¬(σ g=some i/\Q g)->eK g=some j:=λg j hg hn=>by simp only[eK,aq hn,hg]
 have gy:cR w w (Av σ Z) (Av eK Z):=⟨λ_ _ _=>rfl,λg _ hg=>by
  rcases hg with⟨j,hg⟩ |hg
  ·exact .inl (hs g j hg)
  ·exact .inr hg⟩
 refine⟨eK,⟨by rw[br];exact h.len,h.defers,h.fr,λg j hg=>(hs g j hg).elim λk hk=>h.new g k hk,λg j hg=>(hs g j hg).elim λk hk=>h.lt g k hk,λg hg=>⟨?_,(h.old g hg).2⟩,λj=>?_⟩,?_⟩
 ·simp only[eK];rw[aq (λhx=>by rw[(h.old g hg).1] at hx;cases hx.1)];exact(h.old g hg).1
 ·rw[kN];by_cases hj:j=i
  ·rw[aA ⟨hj,hl⟩,hj];exact hv.kept gy (λg hg _=>⟨rfl,J1 g i hg.1 (λhx=>hg.2 hx.2)⟩) (λs _=>⟨λ_ _ h=>h,rfl,by
    by_cases hsi:s=i
    ·subst hsi
     rw[kN,aA ⟨rfl,hl⟩]
     exact⟨_,hv,λ_ _ _=>rfl⟩
    ·rw[kN,aq (λe=>hsi e.1)]
     refine⟨_,(h.holds s).kept (cR.refl _ _) (λg hg _=>⟨rfl,hg⟩) (λs1 hs1=>⟨λr ex hr=>?_,rfl,_,h.holds s1,λ_ _ _=>rfl⟩),λ_ _ _=>rfl⟩
     by_cases aBj:s1=i
     ·subst aBj;exact absurd hr (hi r ex)
     ·rw[kN,aq (λe=>aBj e.1)];exact hr⟩)
  rw[aq (λe=>hj e.1)];refine(h.holds j).kept gy (λg hg _=>⟨rfl,J1 g j hg (λhx=>hj (by rw[hx.1] at hg;injection hg with hg;exact hg.symm))⟩) (λs hs1=>⟨λr ex hr=>?_,rfl,_,h.holds s,λ_ _ _=>rfl⟩);by_cases hsi:s=i
  ·subst hsi;exact absurd hr (hi r ex)
  rw[kN,aq (λe=>hsi e.1)];exact hr
 refine⟨λg hg=>⟨i,hl,hg.1⟩,λg hg=>⟨_,aR _,by simp only[eK,aA hg]⟩,λg j hg hj=>?_,λg=>⟨λ⟨j,hg⟩=>hs g j hg,λ⟨j,hg⟩=>?_⟩,λg j hg hj=>J1 g j hg (λhx=>?_)⟩
 ·simp only[eK] at hg;split at hg
  ·injection hg with hg;omega
  exact hg
 ·simp only[eK];split
  ·exact⟨_,rfl⟩
  exact⟨j,hg⟩
 rw[hx.1] at hg;injection hg with hg;omega
theorem abv (h:dp σ w0 W0 Z H S a w) (ho:o.op=.extract x j) (e:uZ S o.dst x j=some (true,S')):C8 P w0 W0 Z H S' a o.dst w (execOp a.eval o):=by
 unfold uZ at e;split at e;case h_2=>cases e
 rename_i i;split at e;case h_2=>cases e
 rename_i l hl;split at e;case h_2=>cases e
 rename_i b hb;have hh:=h.holds i;rw[hl] at hh;obtain⟨vs,τ,hv,hlen,Qh⟩:=hh;have hbj:l[j]?=some (some b):=by
  rw[aF] at hb;cases hq:l[j]? with
  |none=>rw[hq] at hb;cases hb
  |some q=>rw[hq] at hb;simp only[qx] at hb;rw[hb]
 obtain⟨u,cs,hu,hm,hM⟩:=Qh j b hbj;have iD:∀ w2,(execOp a.eval o).run P w2=.ok (.value u) w2:=λw2=>by have:a.eval (.tmp i)=.tuple vs.toArray:=hv;simp[execOp,ho,this,Instr.extract,hu]
 cases hk:b.m.fu with
 |true=>rw[hk] at e;simp only[ab,ah,aG,cp] at e;subst e;exact im h iD ⟨cs,hm,KO hk (tJ _ hk hM)⟩
 |false=>
 rw[hk] at e;simp only[ae] at e;split at e;case h_2=>cases e
 rename_i d hd;cases hdi:Nat.beq d i with
 |true=>rw[hdi] at e;cases e
 |false=>
 rw[hdi] at e;simp only[ae,ah,aG,cp] at e;subst e;rw[←hd];have hil:i<S.length:=qF (by rw[hl];exact λe=>by cases e);obtain⟨eK,h1,hk1⟩:=h.part (i:=i) (λr ex=>by rw[hl];exact λe=>by cases e) hil (Q:=λg=>τ g=j) (av:=.PJ (l.set j none)) ⟨vs,τ,hv,by rw[br];exact hlen,λk b' uI=>by
  rw[gw] at uI
  split at uI
  ·split at uI<;>cases uI
  ·rename_i hjk
   obtain⟨u',kY,c1,c2,c3⟩:=Qh k b' uI
   exact⟨u',kY,c1,c2,ca (cR.refl _ _) _ (λ_ _ _=>rfl) (λg hg _=>⟨⟨hg.1,λhx=>hjk (by rw[←hx,hg.2])⟩,hg.2⟩) (λ_ h=>h) c3⟩⟩
 exact xU.still (v:=u) iD (Lw (n:=S.length) h1 hk1 (br) (λw2 _=>iD w2) hm (ca (cR.refl _ _) _ (λ_ _ _=>rfl) (λg hg _=>hg) (λ_ h=>h) hM))
theorem aqS (S:St) (d:Nat) (b:TV) (ex:List Path) (i:Nat) (hi:∀ j,(S.at j).refs i=false) (j:Nat):((S.put (some d) (.v b ex)).at j).refs i=false:=by
 rw[nj];split
 ·simp[AV.refs]
 cases hr:(S.at j).refs d&&(S.at d).TK with
 |true=>simp[AV.refs]
 |false=>exact hi j
theorem ao6 (S:St) (i:Nat) (hv:(S.at i).TK=true) (j:Nat):((S.put (some i) .dead).at j).refs i=false:=by
 rw[nj];split
 ·simp[AV.refs]
 rw[hv,dd];cases hr:(S.at j).refs i with
 |true=>simp[AV.refs]
 |false=>exact hr
theorem ao7 (h:dp σ w0 W0 Z H S a w) (ho:o.op=.assign x) (e:aaR Θ S o.dst o.type x=some (true,S')):xU P w0 W0 Z H S' a o.dst w (execOp a.eval o):=by
 have iD:∀ w2,Ext w w2->(execOp a.eval o).run P w2=.ok (.value (a.eval x)) w2:=λw2 _=>by simp only[execOp,ho];rfl
 unfold aaR at e;split at e;case h_2=>
  split at e
  ·injection e with e
   injection e with _ e
   subst e
   exact jo h iD trivial
  ·cases e
 rename_i av pU;have hh:=eU h pU;split at e
 ·-- a value of a temporary
  rename_i d i b ex hd
  cases hk:b.m.fu with
  |true=>
   rw[hk] at e
   simp only[ab,ah,aG,cp] at e
   subst e
   obtain⟨cs,h1,h2⟩:=hh
   exact jo h iD ⟨cs,h1,KO hk (tJ _ hk h2)⟩
  |false=>
   rw[hk] at e
   simp only[ae] at e
   split at e
   case h_2=>cases e
   cases hdi:(Nat.beq d i|| !Nat.blt d S.length) with
   |true=>rw[hdi] at e;cases e
   |false=>
   rw[hdi] at e
   simp only[ae,ah,aG,cp] at e
   subst e
   simp only[Bool.or_eq_false_iff,Bool.not_eq_false'] at hdi
   have aBk:d≠i:=λe=>by rw[e,bV] at hdi;cases hdi.1
   have hdl:d<S.length:=jE (bH hdi.2)
   obtain⟨cs,h1,h2⟩:=hh
   simp only[St.pT,ah] at pU
   have hil:i<S.length:=qF (by rw[pU];exact λe=>by cases e)
   have hp:=h.C2 i
   have hk:vY σ (C2 σ S.length i) S.length (axs σ (.tmp i)):=vY.C2 σ hil (λg hg=>by obtain⟨j,hj,hg⟩:=hg;injection hj with hj;subst hj;exact hg)
   obtain⟨v2,hr2,lR,h3⟩:=Lw (P:=P) (dst:=some d) (n:=S.length) hp hk (eO _ _ _) iD h1 h2
   have hv2:=hr2 w (Ext.refl w)
   rw[iD w (Ext.refl w)] at hv2
   injection hv2 with e1 e2
   injection e1 with e1
   subst e1
   refine⟨a.eval (.tmp i),iD,lR,?_⟩
   rw[hd]
   refine h3.setAt (λj _=>aqS _ d b [] i (ao6 S i (by rw[pU];rfl)) j) ?_
   have htm:gV (a.put (some d) (a.eval (.tmp i))) i=gV a i:=by rw[Xj,aq (λe=>aBk e.1.symm)]
   have htd:gV (a.put (some d) (a.eval (.tmp i))) d=gV a i:=by rw[Xj,aA ⟨rfl,by rw[←h.len];exact hdl⟩];rfl
   refine⟨b,cs,cs,⟨⟨[],?_,λq hq=>by simp at hq⟩,trivial,⟨b,rfl,rfl⟩,by rw[htd];exact h1⟩,rfl,by rw[htm];exact h1⟩
   rw[kN,aq (λe=>aBk e.1),nj,aA ⟨rfl,by rw[eO];exact hdl⟩]
   rfl
 ·-- another value
  rename_i b ex xB
  cases hk:b.m.fu with
  |true=>
   rw[hk] at e
   simp only[ab,ah,aG,cp] at e
   subst e
   obtain⟨cs,h1,h2⟩:=hh
   exact jo h iD ⟨cs,h1,KO hk (tJ _ hk h2)⟩
  |false=>
   rw[hk] at e
   simp only[ae] at e
   split at e
   case h_2=>cases e
   simp only[ah,aG,cp] at e
   subst e
   obtain⟨cs,h1,h2⟩:=hh
   exact jo h iD ⟨cs,h1,ca (cR.refl _ _) _ (λ_ _ _=>rfl) (λg hg _=>by obtain⟨i,hi,_⟩:=hg;cases hi) (λ_ h=>h) h2⟩
 ·rename_i d t s hd;cases Xk:Nat.beq s d with
  |true=>rw[Xk] at e;cases e
  |false=>rw[Xk] at e;simp only[ae,ah,aG,cp] at e;subst e;exact jo h iD hh
 ·rename_i d f c hd;cases Xk:AV.refs d (.EY f c) with
  |true=>rw[Xk] at e;cases e
  |false=>rw[Xk] at e;simp only[ae,ah,aG,cp] at e;subst e;exact jo h iD hh
 ·simp only[ah,aG,cp] at e;subst e;exact jo h iD hh
 split at e;case h_2=>cases e
 rename_i b S1 hb;simp only[ah,aG,cp] at e;subst e;obtain⟨eK,cs,ow,h1,hm,hM,hk,hn⟩:=rX h pU hb;exact Lw h1 hk hn iD hm hM
end Go.Pv
namespace Go.Pv
open List Int IntKind
variable {P:Program} {w w':World} {A A' Wr:Nat->Prop} {H:Nat->Value} {tm Nj:Nat->Value} {S S' S1:St} {σ eK lR:Nat->Option Nat} {w0:World} {W0 Z:Nat->Prop} {a:Act} {own:Nat->Prop} {v:Value} {Θ:nh} {dst:Option Nat}
theorem ala (h:dp σ w0 W0 Z H S a w) (ho:o.op=.makeMap T r) (e:Xf S o.dst T r=some (true,S')):Ug P w0 W0 Z H S' a o.dst w (execOp a.eval o):=by
 unfold Xf at e;split at e;case h_2=>cases e
 simp only[ah,aG,cp] at e;subst e;refine⟨w.alloc (.map #[] 0),.map (some w.heap.size),?_,λg hg=>heap_alloc_old w _ g hg,_,h.af6 (b:=⟨.mp,.o T none .k,[]⟩) (cs:=[.map (some w.heap.size)]) (ow:=λg=>g=w.heap.size) (A':=λg=>Av σ Z g∨g=w.heap.size) (λg hg=>heap_alloc_old w _ g hg) (h.fr.alloc _) (λg hg=>?_) (λg hg hx=>hx) (by simp[a7,isAgg]) ?_⟩
 ·have hr:(Instr.makeMap T none).run P w=.ok (.map (some w.heap.size)) (w.alloc (.map #[] 0)):=rfl;simp[execOp,ho,hr]
 ·subst hg;exact⟨by simp only[World.alloc,gA];omega,.inr (aR _)⟩
 simp only[M];exact .inr (.inr ⟨T,none,w.heap.size,#[],0,rfl,rfl,λh hh=>(by cases hh),rfl,ia w _,rfl,by simp,λq hq=>by simp at hq⟩)
theorem aqT (h:ZE k=true):∃ a b,k=[a,b]/\(Lit.int .i64 a).wf=true/\(Lit.int .i64 b).wf=true:=by
 unfold ZE at h
 rw[ai] at h
 have h1:=aw h.1
 match k,h1 with
 |[a,b],_=>
  have h2:=h.2
  simp only[lM,List.all_nil,dd,ai,ax] at h2
  refine⟨a,b,rfl,?_,?_⟩<;>simp[Lit.wf,IntKind.min,IntKind.max,IntKind.signed,IntKind.bits]<;>omega
theorem aqU (h:Mu k=Mu k'):k=k':=by unfold Mu at h;injection h with h;have:=bB Array.toList h;simp only at this;exact(List.map_inj_right (λa b h=>by injection h)).1 this
structure aDK (P:Program) (T:TypeId):Prop where
 out:∃ k e t,P.underlying T=some (.map k e)/\WideMaps.ArrKey P k t 2/\P.underlying t=some (.int .i64)/\(∃ m,P.types.size=m+1)/\∃ inf,P.info? e=some inf/\inf.zero=some (.bool false)
theorem aBl (hT:ke P Θ=true) (h:Θ.is T .mp=true):aDK P T:=by obtain⟨i,hi,ht⟩:=pC h;obtain⟨_,hu,rfl⟩:=kP hT hi;exact⟨ays hu ht⟩
theorem agd (hA:WideMaps.ArrKey P k t 2) (ht:P.underlying t=some (.int .i64)) (hs:∃ m,P.types.size=m+1) (hx:ZE x=true):∃ l,Go.keyOf P k (Mu x)=some l:=by obtain⟨a,b,rfl,h1,h2⟩:=aqT hx;exact⟨_,WideMaps.keyOf_pair hA ht hs h1 h2⟩
theorem Y8:∀ {x:List (List Int×Bool)} {k:List Int},(∀ q∈x,q.1≠k)->xA x k=none
 |[],_,_=>rfl
 |q::r,k,h=>by simp only[xA,ak (h q (by simp)),ae];exact Y8 λq hq=>h q (by simp[hq])
theorem aeO:∀ {x:List (List Int×Bool)} {k:List Int} {j:Nat} {b:Bool},(x.map (·.1)).Nodup->x[j]?=some (k,b)->xA x k=some b
 |[],_,_,_,_,h=>by simp at h
 |q::r,k,0,b,_,h=>by simp only[aE,ah] at h;subst h;simp[xA]
 |q::r,k,j+1,b,hn,h=>by simp only[bq,eJ] at hn;simp only[eY] at h;have xB:q.1≠k:=λe=>hn.1 (by rw[e];exact cv.2 ⟨_,dv h,rfl⟩);simp only[xA,ak xB,ae];exact aeO hn.2 h
theorem Y9:∀ {x:List (List Int×Bool)} {k:List Int} {b:Bool},(∀ q∈x,q.1≠k)->AL x k b=x++[(k,b)]
 |[],_,_,_=>rfl
 |q::r,k,b,h=>by simp only[AL,ak (h q (by simp)),ae,bF];rw[Y9 λq hq=>h q (by simp[hq])]
theorem aeP:∀ {x:List (List Int×Bool)} {k:List Int} {j:Nat} {b0 b:Bool},(x.map (·.1)).Nodup->x[j]?=some (k,b0)->AL x k b=x.set j (k,b)
 |[],_,_,_,_,_,h=>by simp at h
 |q::r,k,0,b0,b,_,h=>by simp only[aE,ah] at h;subst h;simp[AL]
 |q::r,k,j+1,b0,b,hn,h=>by simp only[bq,eJ] at hn;simp only[eY] at h;have xB:q.1≠k:=λe=>hn.1 (by rw[e];exact cv.2 ⟨_,dv h,rfl⟩);simp only[AL,ak xB,ae,List.set_cons_succ];rw[aeP hn.2 h]
theorem aim (hA:WideMaps.ArrKey P k t 2) (ht:P.underlying t=some (.int .i64)) (hs:∃ m,P.types.size=m+1) (hm:aaQ es x) (hq:ZE q=true) (w:World): ((Instr.findKey k (Mu q) es.toList).run P w=.ok none w/\∀ p∈x,p.1≠q)∨∃ j e0 b,(Instr.findKey k (Mu q) es.toList).run P w=.ok (some (j,.bool b)) w/\es[j]?=some e0/\e0.key=Mu q/\x[j]?=some (q,b):=by
 obtain⟨h1,h2,h3⟩:=hm;obtain⟨l,hl⟩:=agd hA ht hs hq;have nM:∀ (j:Nat) (e0:MapEntry),es.toList[j]?=some e0->∃ p,x[j]?=some p/\e0.key=Mu p.1/\e0.val=.bool p.2:=λj e0 hj=>by have:=bB (λl:List (Value×Value)=>l[j]?) h1;simp only[bR,hj,aS] at this;obtain⟨p,hp,hpe⟩:=mY.1 this.symm;injection hpe with e1 e2;exact⟨p,hp,e1.symm,e2.symm⟩
 have aqV:∀ e0∈es.toList,∃ l,Go.keyOf P k e0.key=some l:=λe0 he=>by obtain⟨j,hj⟩:=sV.1 he;obtain⟨p,hp,hk,_⟩:=nM j e0 hj;rw[hk];exact agd hA ht hs (h3 p (dv hp))
 rcases hA.law.find w hl es.toList aqV with⟨a1,a2⟩ |⟨j,e0,a1,a2,a3⟩
 ·refine .inl ⟨a1,λp hp e=>?_⟩;obtain⟨j,hj⟩:=sV.1 hp;have:=bB (λl:List (Value×Value)=>l[j]?) h1;simp only[bR,hj,aS] at this;obtain⟨e0,he0,hee⟩:=mY.1 this;injection hee with e1 e2;exact a2 e0 (dv he0) (by rw[e1,e])
 obtain⟨p,hp,hk,hv⟩:=nM j e0 a2;have hpq:p.1=q:=aqU (hk.symm.trans a3);rw[hv] at a1;exact .inr ⟨j,e0,p.2,a1,by simpa using a2,a3,by rw[hp,←hpq]⟩
theorem PT (hA:WideMaps.ArrKey P k t 2) (ht:P.underlying t=some (.int .i64)) (hs:∃ m,P.types.size=m+1) (hq:ZE q=true) (w:World) (em:Bool):(Instr.checkKey em 10000 k (Mu q)).run P w=.ok () w:=by obtain⟨l,hl⟩:=agd hA ht hs hq;exact hA.law.check w em hl
theorem ao8 (hA:WideMaps.ArrKey P k t 2) (ht:P.underlying t=some (.int .i64)) (hs:∃ m,P.types.size=m+1) (hq:ZE q=true) (w:World):(Instr.keyThatStays (Mu q) (Mu q)).run P w=.ok (Mu q) w:=by obtain⟨l,hl⟩:=agd hA ht hs hq;exact hA.law.stays w hl
theorem anr {n:Nat} {k:List Int} {v:Value} {cs:List Value} (hm:a7 (.arr n (.int .i64)) v cs) (hk:K w A (.arr n (.int .i64)) k cs):v=Mu k:=by
 simp only[K] at hk;obtain⟨sr,rfl,h1,h2,h3⟩:=hk;have e:sr=k.map λx=>[Value.int .i64 x]:=by
  apply wg
  ·rw[bh,h1];exact h2.symm
  intro j hj hj';rw[vl];exact h3 j (by simpa using hj') hj
 simp only[a7,isAgg,dF] at hm;rw[hm,e];have:∀ k:List Int,(k.map λx=>[Value.int .i64 x]).flatten=k.map (Value.int .i64):=λk=>by
  induction k with
  |nil=>rfl
  |cons a r ih=>simp[ih]
 rw[this];rfl
theorem ao9 (hT:ke P Θ=true) (h:dp σ w0 W0 Z H S a w) (ho:o.op=.lookup T x y ok) (e:aaU Θ S o.dst T x y ok=some (true,S')):xU P w0 W0 Z H S' a o.dst w (execOp a.eval o):=by
 unfold aaU at e;split at e;case h_2=>cases e
 rename_i m xs n m' k hx hy;cases hc:Θ.is T .mp with
 |false=>rw[hc] at e;cases e
 |true=>
  rw[hc] at e;simp only[ab,ah,aG] at e;obtain⟨hk,rfl⟩:=e;obtain⟨cs,h1,h2,_⟩:=qw h hx;obtain⟨kY,h3,h4,_⟩:=qw h hy;have hy':=anr h3 h4;simp only[K] at h2;obtain⟨g,es,c,rfl,_,hw,hm⟩:=h2;simp only[a7,isAgg] at h1;have N9:a.eval x=.map (some g):=(by simpa using h1.symm);obtain⟨kt,et,t,hu,hA,ht,hs,inf,hi,hz⟩:=(aBl hT hc).out;have gU:=dz hw;have run:∀ w2,Ext w w2->(execOp a.eval o).run P w2=.ok (.value (.tuple #[.bool ((xA xs k).getD false),.bool (xA xs k).isSome])) w2:=λw2 MC=>by
   have hb:=(MC g gU).trans hw;have hzr:(zeroValue et).run P w2=.ok (.bool false) w2:=(by simp[zeroValue,typeInfo,hi,hz]);rcases aim hA ht hs hm hk w2 with⟨a1,a2⟩ |⟨j,e0,b,a1,a2,a3,a4⟩
   ·rw[Y8 a2];simp[execOp,ho,N9,hy',Instr.lookup,bc hu,lS hb,PT hA ht hs hk w2,a1,hzr,Result.andThen]
   rw[aeO hm.2.1 a4];simp[execOp,ho,N9,hy',Instr.lookup,bc hu,lS hb,PT hA ht hs hk w2,a1,Result.andThen]
  refine jo h run ⟨[.bool ((xA xs k).getD false),.bool (xA xs k).isSome],λ_=>0,rfl,rfl,λj b hj=>?_⟩;match j with
 |0=>simp only[aE,ah] at hj;subst hj;exact⟨_,[.bool ((xA xs k).getD false)],rfl,by simp[a7,isAgg],by simp[M,K,Md.fu]⟩
 |1=>simp only[eY,aE,ah] at hj;subst hj;exact⟨_,[.bool (xA xs k).isSome],rfl,by simp[a7,isAgg],by simp[M,K,Md.fu]⟩
 |j+2=>simp at hj
theorem aeQ (hm:aaQ es x) (hq:ZE q=true) (c:Nat): ((∀ p∈x,p.1≠q)->aaQ (es.push ⟨Mu q,.bool b,c⟩) (AL x q b))/\∀ j e0 b0,es[j]?=some e0->x[j]?=some (q,b0)->aaQ (es.modify j λe'=>{ e' with key:=Mu q,val:=.bool b }) (AL x q b):=by
 obtain⟨h1,h2,h3⟩:=hm;refine⟨λhn=>?_,λj e0 b0 he hx=>?_⟩
 ·rw[Y9 hn];refine⟨by simp[h1],?_,λp hp=>?_⟩
  ·rw[k8,fN];refine⟨h2,by simp,λp hp p' hp'=>?_⟩;simp only[bq,od,bu] at hp';subst hp';obtain⟨p0,hp0,rfl⟩:=cv.1 hp;exact hn p0 hp0
  rcases bd.1 hp with hp |hp
  ·exact h3 p hp
  simp only[bu] at hp;subst hp;exact hq
 rw[aeP h2 hx];have Np:j<x.length:=(bO.1 hx).1;have hxj:x[j]=(q,b0):=(bO.1 hx).2;have aqV:(x.set j (q,b)).map (·.1)=x.map (·.1):=by
  rw[oe];apply de;intro i;rw[gw];by_cases PM:j=i
  ·subst PM;simp[Np,hxj]
  rw[aq PM]
 refine⟨?_,by rw[aqV];exact h2,λp hp=>?_⟩
 ·rw[Array.toList_modify,ChangeMaps.modify_eq_set _ _ _ _ (by simpa using he),oe,oe,h1]
 rcases fX hp with hp |rfl
 ·exact h3 p hp
 exact hq
theorem Fr.setBlock (h:Fr w0 W0 w) (hw:w.heap[g]?=some (.map es c)) (hg:w0.heap.size<=g∨W0 g):Fr w0 W0 (ChangeMaps.setBlock w g x):=by refine⟨h.os,h.tape,h.output,by simp[ChangeMaps.setBlock];exact h.size,λk hk hn=>?_⟩;rw[ChangeMaps.heap_setBlock_other hw _ (λe=>by subst e;rcases hg with hg |hg;omega;exact hn hg)];exact h.block k hk hn
theorem age (hT:ke P Θ=true) (h:dp σ w0 W0 Z H S a w) (ho:o.op=.mapUpdate T x y z) (Fv:o.dst=none) (e:Od Θ S T x y z=some (true,S')):ad2 P w0 W0 Z H S' a o.dst w (execOp a.eval o):=by
 unfold Od at e;split at e;case h_2=>cases e
 rename_i s n m' k m'' b hx hy hz;split at e;case h_2=>cases e
 rename_i T' tag me xs hs;cases hc:Θ.is T .mp with
 |false=>rw[hc] at e;cases e
 |true=>
 rw[hc] at e;simp only[ab,ah,aG] at e;obtain⟨hk,e⟩:=e;have hal:=eU h hx;obtain⟨r,lB,cs,hr,wS,hmv⟩:=hal;obtain⟨⟨ex,h1,_⟩,_,_,Uo⟩:=hr;rw[hs] at h1;injection h1 with h1 h1';subst h1 h1';simp only[cD,ah] at wS;subst wS;have hh:=h.holds s;rw[hs] at hh;obtain⟨cs1,hm1,hM⟩:=hh;obtain rfl:=oP Uo hm1;simp only[M] at hM;rcases hM with⟨h2,_⟩ |⟨h2,_⟩ |⟨T2,aia,g,es,c,e1,rfl,ao2,hg,hw,hm⟩
 ·simp at h2
 ·simp[Md.fu] at h2
 injection e1 with e1 e2 e3;subst e1 e2 e3;simp only[a7,isAgg] at hmv;have N9:a.eval x=.map (some g):=by simpa using hmv.symm
 obtain⟨kY,h3,h4,_⟩:=qw h hy;have hy':=anr h3 h4;obtain⟨aEN,h5,h6,_⟩:=qw h hz;have hz':=lO h5 h6;obtain⟨kt,et,t,hu,hA,ht,sW,inf,hi,hzz⟩:=(aBl hT hc).out;obtain⟨es',c',iD,hm'⟩:∃ es' c',(Instr.mapUpdate T (.map (some g)) (Mu k) (.bool b)).run P w=.ok () (ChangeMaps.setBlock w g (.map es' c'))/\aaQ es' (AL xs k b):=by
  rcases aim hA ht sW hm hk w with⟨a1,a2⟩ |⟨j,e0,b0,a1,a2,a3,a4⟩
  ·refine⟨es.push ⟨Mu k,.bool b,c⟩,c+1,?_,(aeQ hm hk c).1 a2⟩;simp[Instr.mapUpdate,bc hu,lS hw,PT hA ht sW hk w,a1,MapKept.run_setObj_map _ hw,Result.andThen,ChangeMaps.setBlock]
  refine⟨es.modify j λe'=>{ e' with key:=Mu k,val:=.bool b },c,?_,(aeQ hm hk c).2 j e0 b0 a2 a4⟩;simp[Instr.mapUpdate,bc hu,lS hw,PT hA ht sW hk w,a1,a2,a3,ao8 hA ht sW hk w,MapKept.run_setObj_map _ hw,Result.andThen,ChangeMaps.setBlock]
 have ZG:s<S.length:=qF (by rw[hs];exact λe=>by cases e);have su:∀ k',k'≠g->(ChangeMaps.setBlock w g (.map es' c')).heap[k']?=w.heap[k']?:=λk' uI=>ChangeMaps.heap_setBlock_other hw _ uI;have xm:(ChangeMaps.setBlock w g (.map es' c')).heap[g]?=some (.map es' c'):=ChangeMaps.heap_setBlock_same hw _;have gy:cR w (ChangeMaps.setBlock w g (.map es' c')) (Av σ Z) (Av σ Z):=⟨λk' uI _=>su k' (λe'=>uI (by rw[e'];exact .inl ⟨s,hg⟩)),λk' _ uI=>uI⟩;have Ul:M (ChangeMaps.setBlock w g (.map es' c')) (Av σ Z) H .mp (.o T' tag .k) (AL xs k b) [.map (some g)] (λg'=>σ g'=some s) []:=by simp only[M];exact .inr (.inr ⟨T',tag,g,es',c',rfl,rfl,ao2,hg,xm,hm'⟩)
 have nM:∀ i,S'.at i=if i=s then .v ⟨.mp,.o T' tag .k,AL xs k b⟩ [] else bif (S.at i).qE s then .dead else S.at i:=by
  intro i;rw[←e,kN];by_cases hi:i=s
  ·rw[aA hi,aA ⟨hi,by simp[St.weaken];exact ZG⟩]
  rw[aq hi,aq (λh=>hi h.1),zO]
 rw[Fv];refine⟨ChangeMaps.setBlock w g (.map es' c'),undef,.inr ⟨rfl,?_⟩,σ,?_⟩
 ·simp only[execOp,ho,N9,hy',hz',a6,iD,aX];rfl
 show dp σ w0 W0 Z H S' a (ChangeMaps.setBlock w g (.map es' c'));refine⟨by rw[←e];simp[St.weaken];exact h.len,h.defers,h.fr.setBlock hw (h.new g s hg),h.new,λg' i dU=>?_,h.old,λi=>?_⟩
 ·simp[ChangeMaps.setBlock];exact h.lt g' i dU
 rw[nM i];by_cases his:i=s
 ·subst his;rw[aA rfl];exact⟨_,Uo,Ul⟩
 rw[aq his];cases Ms:(S.at i).qE s with
 |true=>trivial
 |false=>
 simp only[ae];refine Rt (r:=⟨.mp,.o T' tag .k,xs⟩) (r':=⟨.mp,.o T' tag .k,AL xs k b⟩) (ex:=[]) (ex':=[]) gy rfl hs (by rw[nM s,aA rfl]) (λj r1 ex1 hj hv=>by rw[nM j,aq hj,hv];simp[AV.qE]) ⟨_,_,Uo,Ul⟩ (λ_ hq=>hq)
  (λq _ hv=>by
   cases q with
   |nil=>trivial
   |cons st q=>cases st<;>exact hv.elim) (λq b1 hq=>by
   cases q with
   |nil=>exact⟨_,rfl,by injection hq with hq;subst hq;rfl⟩
   |cons st q=>cases st<;>simp[dP] at hq) (λj hj=>⟨_,h.holds j,λg' dU _=>su g' (λe'=>by subst e';rw[hg] at dU;injection dU with dU;exact hj dU.symm)⟩)
  (λg' dU _=>⟨su g' (λe'=>by subst e';rw[hg] at dU;injection dU with dU;exact his dU.symm),dU⟩) Ms (h.holds i)
theorem ao' (hT:ke P Θ=true) (h:dp σ w0 W0 Z H S a w) (ho:o.op=.build T ps) (e:TO Θ S o.dst T ps.toList=some (true,S')):C8 P w0 W0 Z H S' a o.dst w (execOp a.eval o):=by
 unfold TO at e;split at e;case h_2=>cases e
 rename_i x y i hps hi;cases hc:decide (i.ty=.arr 2 (.int .i64)) with
 |false=>rw[hc] at e;cases e
 |true=>
 rw[hc] at e;simp only[ab] at e;have rS:i.ty=.arr 2 (.int .i64):=by simpa using hc
 split at e;case h_2=>cases e
 rename_i m n m' k hx hy;simp only[ah,aG,cp] at e;subst e;obtain⟨cs,h1,h2,_⟩:=qw h hx;obtain⟨kY,h3,h4,_⟩:=qw h hy;have N9:=kZ h1 h2;have hy':=kZ h3 h4;obtain⟨mI,hu,Sc⟩:=kP hT hi;obtain⟨et,hd,het,_⟩:=au' hu rS;rw[Sc] at hd;obtain⟨_,inf,z,i1,i2,_,_,_,i3,i4⟩:=mI;rw[Sc] at i1;obtain⟨aDG,j1,j2,_⟩:=wX hT het;have hzc:z.cells=#[.int .i64 0,.int .i64 0]:=by rw[rS] at i4;simp only[a7,isAgg,dF] at i4;rw[i4];simp[zc,Value.cells]
 have hci:∀ n:Int,(Value.int .i64 n).cells=#[.int .i64 n]:=λ_=>rfl;have aDL:ps=#[(0,x),(1,y)]:=by cases ps;simpa using hps
 have run:∀ w2,(execOp a.eval o).run P w2=.ok (.value (.agg #[.int .i64 n,.int .i64 k])) w2:=λw2=>by simp[execOp,ho,aDL,N9,hy',Instr.build,zeroValue,typeInfo,i1,i3,bc hd,sizeOf,j1,j2,hzc,Ty.size,Instr.fill,hci,Result.andThen]
 refine im h run ⟨[.int .i64 n,.int .i64 k],by simp[a7,isAgg],?_⟩;simp only[M,Md.fu,cp,K];exact⟨[[.int .i64 n],[.int .i64 k]],rfl,rfl,rfl,λj h1 h2=>by
  match j,h1 with
  |0,_=>rfl
  |1,_=>rfl⟩
theorem aeR (hT:ke P Θ=true) (h:dp σ w0 W0 Z H S a w) {o:Oper} {T:TypeId} {ps:Array (Nat×Operand)} (ho:o.op=.build T ps) (e:(match TN Θ S o.dst T ps.toList with
  |some r=>some r
  |none=>TO Θ S o.dst T ps.toList)=some (true,S')):C8 P w0 W0 Z H S' a o.dst w (execOp a.eval o):=by
 split at e
 ·rename_i r hr
  injection e with e
  subst e
  exact aqK hT h ho hr
 ·exact ao' hT h ho e
end Go.Pv
namespace Go.Pv
open List Int IntKind
variable {P:Program} {w w':World} {A A' Wr:Nat->Prop} {H:Nat->Value} {tm Nj:Nat->Value} {S S' S1:St} {σ eK lR:Nat->Option Nat} {w0:World} {W0 Z:Nat->Prop} {a:Act} {own:Nat->Prop} {v:Value} {Θ:nh} {dst:Option Nat}
theorem aqW (h:isAgg t=false):t.size=1:=by cases t<;>simp[isAgg] at h<;>rfl
theorem aqX (hT:ke P Θ=true) (h:dp σ w0 W0 Z H S a w) (ho:o.op=.field T x f) (e:afR Θ S o.dst T x f=some (true,S')):xU P w0 W0 Z H S' a o.dst w (execOp a.eval o):=by
 unfold afR at e;split at e;case h_2=>cases e
 rename_i b ex i pU hi;cases hc:(Nat.blt f i.fs.length&&decide (i.ty=b.t)) with
 |false=>rw[hc] at e;cases e
 |true=>
  rw[hc] at e;simp only[ab] at e;simp only[ai,ax] at hc;obtain⟨gU,rS⟩:=hc;have gU:f<i.fs.length:=jE (bH gU);split at e;case h_2=>cases e
  rename_i j;split at e;case h_2=>cases e
  rename_i c hg;simp only[St.pT,ah] at pU;have hh:=h.holds j;rw[pU] at hh;obtain⟨cs,hm,hM⟩:=hh;obtain⟨_,hu,hT0⟩:=kP hT hi;have hp:=zR f i.fs.length;obtain⟨pa,pb,hpp⟩:=Uc (aqz gU) hp hg;obtain⟨fs,f1,f2,f3,_⟩:=Iw hu (rS.trans hpp);rw[hT0] at f1;have Xy:fs.toList.length=i.fs.length:=by rw[←f2,bh]
  have hfs:fs.size=i.fs.length:=(by rw[←Xy,bT]);obtain⟨fd,hfd⟩:∃ fd,fs[f]?=some fd:=⟨_,dw (by omega)⟩;obtain⟨t,t1,t2,t3,_⟩:=zQ f3 f fd (by rw[bK];exact hfd);rw[aW,hfs,rS] at t1 t3;have hct:c.t=t:=(by have:=MO _ hp hg;rw[t1] at this;injection this with this;exact this.symm);subst hct;obtain⟨hlen,avd⟩:=rK _ hM;have R4:=q7 _ hp hg;have agf:cD w (J0 f i.fs.length) b.t cs=some ((cs.drop (cE (J0 f i.fs.length) b.t)).take c.t.size):=rL _ hp hg hlen;obtain⟨v,hv,iD⟩:∃ v,a7 c.t v ((cs.drop (cE (J0 f i.fs.length) b.t)).take c.t.size)/\∀ w2,Ext w w2->(execOp a.eval o).run P w2=.ok (.value v) w2:=by
   have AQ:a.eval (.tmp j)=.agg cs.toArray:=(by unfold a7 at hm;rw[aA (by rw[hpp];rfl)] at hm;exact hm);have hag:=ak1 hT t2;obtain⟨inf,s1,s2,_⟩:=wX hT t2;have hso:∀ w2,(sizeOf fd.type).run P w2=.ok c.t.size w2:=λw2=>(by simp[sizeOf,typeInfo,s1,s2]);cases hca:isAgg c.t with
   |true=>
   refine⟨.agg (cs.toArray.extract (cE (J0 f i.fs.length) b.t) (cE (J0 f i.fs.length) b.t+c.t.size)),?_,λw2 _=>?_⟩
   ·unfold a7;rw[aA hca];congr 1;apply il.1;rw[Array.toList_extract,b5,b5,List.extract_eq_drop_take'];rw[iL,iP]
   rw[hca] at hag;have aqY:(part fd.type cs.toArray fd.offset).run P w2=.ok (.agg (cs.toArray.extract (cE (J0 f i.fs.length) b.t) (cE (J0 f i.fs.length) b.t+c.t.size))) w2:=(by unfold part;simp only[a6,hag,aX,dF,hso,t3];rfl);simp only[execOp,ho,AQ,Instr.field,a6,bc f1,aX,hfd,asAgg,dk,aqY]
   |false=>
   have h1:=aqW hca;have ak2:cE (J0 f i.fs.length) b.t<cs.length:=(by omega);refine⟨cs[cE (J0 f i.fs.length) b.t],?_,λw2 _=>?_⟩
   ·unfold a7;rw[aq (by rw[hca];exact lP),h1,aY ak2,ob,tX]
   rw[hca] at hag;have aqY:(part fd.type cs.toArray fd.offset).run P w2=.ok (cs[cE (J0 f i.fs.length) b.t]) w2:=(by unfold part;simp only[a6,hag,aX,aq lP,t3];rw[qH,aU ak2];rfl);simp only[execOp,ho,AQ,Instr.field,a6,bc f1,aX,hfd,asAgg,dk,aqY]
  have hvalid:=xV _ hp hg;cases hk:c.m.fu with
 |true=>
 rw[hk] at e;simp only[ab] at e;split at e;case h_2=>cases e
 simp only[ah,aG,cp] at e;subst e;obtain⟨kY,kF,k1,k2,k3⟩:=focus _ hM (λq hq=>by simp at hq) hvalid hg
 rw[agf] at k1;injection k1 with k1;subst k1;exact jo h iD ⟨_,hv,ua _ (tJ _ hk k3)⟩
 |false=>
 rw[hk] at e;simp only[ae] at e;split at e;case h_2=>cases e
 rename_i c' Y5;simp only[ah,aG,cp] at e;subst e;obtain⟨r,ex',q1,q2,q3⟩:=qg Y5;rw[pU] at q1;injection q1 with q1 q1';subst q1 q1';exact jo h iD ⟨b,cs,_,⟨⟨ex,pU,rW q2⟩,hvalid,⟨c,hg,rfl⟩,hm⟩,agf,hv⟩
theorem Y' (h:dp σ w0 W0 Z H S a w):∀ {xs:List Operand} {l:List Cap},aaT S xs=some l->xs.length=l.length/\∀ (j:Nat) (c:Cap),l[j]?=some c->∃ u,(xs.map a.eval)[j]?=some u/\It w (Av σ Z) (gV a) S c u
 |[],l,e=>by simp only[aaT,ah] at e;subst e;exact⟨rfl,λj c hj=>by simp at hj⟩
 |x::xs,l,e=>by
  simp only[aaT] at e;split at e;case h_2=>cases e
  rename_i c l2 hc hl;simp only[ah] at e;subst e;obtain⟨h1,h2⟩:=Y' h hl;refine⟨by simp[h1],λj c' hj=>?_⟩;cases j with
  |succ j=>simpa using h2 j c' (by simpa using hj)
  |zero=>
  simp only[aE,ah] at hj;subst hj;refine⟨a.eval x,rfl,?_⟩;unfold axn at hc;split at hc;case h_2=>cases hc
  rename_i i;have hh:=h.holds i;split at hc
  ·rename_i t T tag me y ex nM;injection hc with hc;subst hc;rw[nM] at hh;obtain⟨cs,h1,h2⟩:=hh;exact⟨_,cs,cs,⟨⟨ex,nM,λq _ s r e=>by cases q<;>simp at e⟩,trivial,⟨_,rfl,rfl⟩,h1⟩,rfl,h1⟩
  ·rename_i t y ex nM;injection hc with hc;subst hc;rw[nM] at hh;obtain⟨cs,h1,h2⟩:=hh;have h1':cs=[gV a i]:=by simpa[a7,isAgg] using h1
   subst h1';simp only[M] at h2;rcases h2 with⟨_,hx,_⟩ |⟨_,h2⟩ |⟨T,tag,me,g,cur,hx,_⟩
   ·simp[Md.fu] at hx
   ·exact h2
   cases hx
  ·rename_i t s p nM;injection hc with hc;subst hc;rw[nM] at hh;exact hh
  cases hc
theorem ain (h:dp σ w0 W0 Z H S a w) (ho:o.op=.makeFunc (.func f) first kE) (e:R3 S o.dst f first.toList kE.toList=some (true,S')):xU P w0 W0 Z H S' a o.dst w (execOp a.eval o):=by
 unfold R3 at e;split at e;case h_2=>cases e
 rename_i l hf hl;split at e;case h_2=>cases e
 rename_i d hd;cases hr:AV.refs d (.EY f l) with
 |true=>rw[hr] at e;cases e
 |false=>
 rw[hr] at e;simp only[ae,ah,aG,cp] at e;subst e;obtain⟨h1,h2⟩:=Y' h hl;have hfe:first=#[]:=by apply il.1;rw[hf]
 refine jo (v:=.func (.func f) #[] (kE.map a.eval)) h (λw2 _=>by simp[execOp,ho,Instr.makeFunc,hfe]) ⟨kE.toList.map a.eval,?_,by rw[bh,h1],h2⟩;congr 1;apply il.1;simp
theorem aio (h:dp σ w0 W0 Z H S a w) (ho:o.op=.move x) (e:Mw Θ S o.dst o.type x=some (true,S')):C8 P w0 W0 Z H S' a o.dst w (execOp a.eval o):=by
 by_cases hnt:∃ l,S.pT Θ o.type x=some (.PJ l)
 rotate_left
 ·exact ava h ho (λl hl=>hnt ⟨l,hl⟩) e
 obtain⟨l,hl⟩:=hnt
 unfold Mw at e
 rw[hl] at e
 simp only at e
 split at e
 case h_2=>cases e
 rename_i d i hd
 cases hc:(Nat.beq d i|| !Nat.blt d S.length) with
 |true=>rw[hc] at e;cases e
 |false=>
  rw[hc] at e
  simp only[ae,ah,aG,cp] at e
  subst e
  have nM:S.at i=.PJ l:=by simpa[St.pT] using hl
  have hh:=h.holds i
  rw[nM] at hh
  obtain⟨vs,τ,h1,h2,h3⟩:=hh
  refine⟨gV a i,λw2=>by simp only[execOp,ho];rfl,?_⟩
  rw[hd]
  have hp:=h.C2 i
  have hgo:=hp.anm (dst:=some d) (v:=gV a i) (av:=.PJ l) (ow:=λg=>σ g=some i) (w':=w) (aR _) (λ_ _ _=>rfl) h.fr (λg hg=>⟨h.lt g i hg,.inl ⟨S.length,by rw[eO];exact aR _,by unfold C2;rw[aA hg]⟩⟩) (λd' hd' q1 q2=>?_)
  ·exact⟨_,hgo⟩
  ·refine⟨vs,τ,h1,h2,λj b hb=>?_⟩
   obtain⟨u,cs,u1,u2,u3⟩:=h3 j b hb
   refine⟨u,cs,u1,u2,ca ⟨λ_ _ _=>rfl,λg hg hx=>?_⟩ _ (λ_ _ _=>rfl) (λg hg _=>⟨q1 g hg.1,hg.2⟩) (λ_ h=>h) u3⟩
   rcases q2 g hx with q |q
   ·exact anl.1 q
   ·exact .inl ⟨i,q⟩
theorem aqZ (hT:ke P Θ=true) (h:dp σ w0 W0 Z H S a w) (hq:quiet o.op=true) (e:ev Θ hn S o=some (true,S')):xU P w0 W0 Z H S' a o.dst w (execOp a.eval o):=by
 unfold ev at e;split at e;case h_1 x ho=>exact(aio h ho e).q
 case h_2 x ho=>exact ao7 h ho e
 case h_3 c x y ho=>exact avb h ho e
 case h_4 T ho=>rw[ho] at hq;cases hq
 case h_5 T x ho=>rw[ho] at hq;cases hq
 case h_6 T ps ho=>exact(aeR hT h ho e).q
 case h_7 T n ps ho=>rw[ho] at hq;cases hq
 case h_8 T x ho=>exact avc hT h ho e
 case h_9 T x y ho=>rw[ho] at hq;cases hq
 case h_10 x ho=>exact ah9 h ho e
 case h_11 T x f ho=>exact(Ud hT h ho e).q
 case h_12 T x f ho=>exact aqX hT h ho e
 case h_13 T x ix ho=>exact(Ue hT h ho e).q
 case h_14 T x ix ho=>exact aqv hT h ho e
 case h_15 x j ho=>exact(abv h ho e).q
 case h_16 T x lo hi mx ho=>exact(aib hT h ho e).q
 case h_17 T T' x ho=>exact ah5 hT h ho e
 case h_18 op T x y p ho=>exact(aqu hT h ho e).q
 case h_19 op T x ho=>exact aA7 h ho e
 case h_20 T l c ho=>rw[ho] at hq;cases hq
 case h_21 f first kE ho=>exact ain h ho e
 case h_22 as ts ho=>exact(aqw hT h ho e).q
 case h_27=>cases e
 all_goals (rename_i ho;rw[ho] at hq;cases hq)
def alb:Op->Bool
 | .extract ..=>true | .indexAddr ..=>true | .binOp ..=>true | .slice ..=>true | .move _=>true | .convert ..=>true | .fieldAddr ..=>true | .build ..=>true | .call { callee:=.builtin .len,.. }=>true |_=>false
theorem ayJ (hT:ke P Θ=true) (h:dp σ w0 W0 Z H S a w) (hq:alb o.op=true) (hq2:(match o.op with
 | .convert _ T' _=>(match Θ.find T' with
  |some i=>(match i.ty with
   | .int _=>true
   |_=>false)
  |none=>false)
 |_=>true)=true) (e:ev Θ hn S o=some (true,S')):C8 P w0 W0 Z H S' a o.dst w (execOp a.eval o):=by
 unfold alb at hq
 split at hq
 ·rename_i x j ho
  unfold ev at e
  rw[ho] at e
  exact abv h ho e
 ·rename_i T x ix ho
  unfold ev at e
  rw[ho] at e
  exact Ue hT h ho e
 ·rename_i op T x y T' ho
  unfold ev at e
  rw[ho] at e
  exact aqu hT h ho e
 ·rename_i T x lo hi mx ho
  unfold ev at e
  rw[ho] at e
  exact aib hT h ho e
 ·rename_i x ho
  unfold ev at e
  rw[ho] at e
  exact aio h ho e
 ·rename_i T T' x ho
  unfold ev at e
  rw[ho] at e
  rw[ho] at hq2
  exact abi hT h ho hq2 e
 ·rename_i T x f ho
  unfold ev at e
  rw[ho] at e
  exact Ud hT h ho e
 ·rename_i T ps ho
  unfold ev at e
  rw[ho] at e
  exact aeR hT h ho e
 ·rename_i as ts ho
  unfold ev at e
  rw[ho] at e
  exact aqw hT h ho e
 ·cases hq
def aip:Op->Bool
 | .alloc _=>true | .box ..=>true | .buildSlice ..=>true | .makeSlice ..=>true | .makeMap ..=>true |o=>quiet o
theorem aq0 (hT:ke P Θ=true) (h:dp σ w0 W0 Z H S a w) (hq:aip o.op=true) (e:ev Θ hn S o=some (true,S')):Ug P w0 W0 Z H S' a o.dst w (execOp a.eval o):=by
 cases hqq:quiet o.op with
 |true=>exact(aqZ hT h hqq e).ZF
 |false=>
 unfold ev at e;split at e;case h_4 T ho=>exact aqE hT h ho e
 case h_5 T x ho=>exact ayA hT h ho e
 case h_7 T n ps ho=>exact ad3 hT h ho e
 case h_20 T l c ho=>exact aga hT h ho e
 case h_27=>cases e
 case h_9 T x y ho=>rw[ho] at hq;cases hq
 case h_23 as ts ho=>rw[ho] at hq;cases hq
 case h_24 T r ho=>exact ala h ho e
 case h_25 T x y ok ho=>rw[ho] at hq;cases hq
 case h_26 T x y z ho=>rw[ho] at hq;cases hq
 all_goals (rename_i ho;rw[ho] at hqq;cases hqq)
theorem aiq (h:dp σ w0 W0 Z H S a w) (g:ad2 P w0 W0 Z H S1 a dst w s) (hd:dst=none):ad2 P w0 W0 Z H (Mz Θ S S1 T y) a dst w s:=by
 subst hd;unfold Mz;split;case h_2=>exact g
 rename_i t0 s0 _;split;case h_2=>exact g
 rename_i t m xs hs hs1;cases hk:m.fu with
 |true=>exact g
 |false=>
 simp only[ae];obtain⟨w',v,h1,nK,h2⟩:=g;refine⟨w',v,h1,?_⟩;have hh:=h.holds s0;rw[hs] at hh;obtain⟨cs,hm,hM⟩:=hh;have wS:∃ A c,cs=[.slice A xs.length c]:=by
  simp only[M] at hM;rcases hM with⟨hn,_⟩ |⟨uI,_⟩ |⟨T',tag,me,A,c,_,rfl,_⟩
  ·simp at hn
  ·rw[hk] at uI;cases uI
  exact⟨A,c,rfl⟩
 have ha:a.put none v=a:=rfl;rw[ha] at h2 ⊢;have h3:=h2.pure (dst:=some s0) (av:=.v ⟨.sl t,m,xs⟩ [[]]) (v:=gV a s0) ⟨cs,hm,by
  simp only[M]
  exact .inl ⟨by simp,hk,wS⟩⟩
 rw[Iy] at h3;have he:S1.put (some s0) (.v ⟨.sl t,m,xs⟩ [[]])=S1.set s0 (.v ⟨.sl t,m,xs⟩ [[]]):=by simp only[St.put,hs1];rfl
 rw[he] at h3;exact⟨_,h3⟩
theorem aBm (hT:ke P Θ=true) (h:dp σ w0 W0 Z H S a w) (e:ev Θ hn S o=some (true,S')):ad2 P w0 W0 Z H S' a o.dst w (execOp a.eval o):=by
 cases hq:aip o.op with
 |true=>exact(aq0 hT h hq e).goes
 |false=>
 unfold ev at e;split at e;case h_9 T x y ho=>
  split at e
  ·rename_i hd
   split at e
   ·rename_i g S1 he
    injection e with e
    injection e with e1 e2
    subst e1 e2
    exact aiq h (aqH hT h ho hd he) hd
   ·cases e
  ·cases e
 case h_23 as ts ho=>
  split at e
  ·rename_i r hr
   injection e with e
   subst e
   exact ao5 hT h ho hr
  ·exact ak' hT h ho e
 case h_25 T x y ok ho=>exact(ao9 hT h ho e).goes
 case h_26 T x y z ho=>
  split at e
  ·rename_i hd
   exact age hT h ho hd e
  ·cases e
 case h_27=>cases e
 all_goals (rename_i ho;rw[ho] at hq;cases hq)
end Go.Pv
namespace Go.Pv
open List Int IntKind
variable {P:Program} {w w':World} {A A' Wr:Nat->Prop} {H:Nat->Value} {tm Nj:Nat->Value} {S S' S1:St} {σ eK lR:Nat->Option Nat} {w0:World} {W0 Z:Nat->Prop} {a:Act} {own:Nat->Prop} {v:Value} {Θ:nh} {dst:Option Nat}
def Own (σ:Nat->Option Nat) (g:Nat):Prop:=∃ i,σ g=some i
def Za (w:World) (A:Nat->Prop) (H:Nat->Value):Arg->Value->(Nat->Prop)->Prop
 | .tv b,v,own=>∃ cs,a7 b.t v cs/\M w A H b.t b.m b.x cs own []
 | .fn f kE,v,_=>∃ vs:List Value,v=.func (.func f) #[] vs.toArray/\vs.length=kE.length/\∀ (j:Nat) (c:TV),kE[j]?=some c->∃ u,vs[j]?=some u/\K w A c.t c.x [u]
abbrev Gl:=Nat->Option Obj
structure In (Γ:Gl) (B:Nat->Prop) (H:Nat->Value) (w:World) (σ:Nat->Option Nat) (args:List Arg) (fC:List Value):Prop where
 len:fC.length=args.length
 lt:∀ g i,σ g=some i->i<args.length/\g<w.heap.size
 old:∀ g,B g->σ g=none/\g<w.heap.size
 env:∀ g o,Γ g=some o->σ g=none/\w.heap[g]?=some o
 ok:∀ (j:Nat) (a:Arg),args[j]?=some a->∃ v,fC[j]?=some v/\Za w (Av σ B) H a v (λg=>σ g=some j)
def ant:List Value->Value
 |[u]=>u
 |vs=>.tuple vs.toArray
structure Out (B:Nat->Prop) (H:Nat->Value) (w w':World) (σ:Nat->Option Nat) (rt:jD) (v:Value):Prop where
 fr:Fr w (Own σ) w'
 res:∃ (nK:Nat->Option Nat) (vs:List Value),v=ant vs/\vs.length=rt.res.length/\(∀ g i,nK g=some i->(w.heap.size<=g∨Own σ g)/\g<w'.heap.size)/\
  (∀ (i:Nat) (b:TV),rt.res[i]?=some b->∃ u cs,vs[i]?=some u/\a7 b.t u cs/\M w' (Av nK B) H b.t b.m b.x cs (λg=>nK g=some i) [])/\
  ∀ c,rt.refs=[c]->∃ cs,M w' (Av nK B) H c.t c.m c.x cs (λg=>nK g=some rt.res.length) []
def air (P:Program) (f:FuncId) (fC:List Value) (w:World) (R:Value->World->Prop):Prop:=((callFunc f fC.toArray).run P w=.ok (.enter f fC.toArray) w/\Calls P f fC.toArray w λ| .returned v,w'=>R v w' |_,_=>False)∨∃ v w',(callFunc f fC.toArray).run P w=.ok (.value v) w'/\R v w'
theorem air.mono {R R':Value->World->Prop} (h:air P f fC w R) (hr:∀ v w',R v w'->R' v w'):air P f fC w R':=by
 rcases h with⟨h1,h2⟩ |⟨v,w',h1,h2⟩
 ·refine .inl ⟨h1,h2.mono λe w' he=>?_⟩;cases e<;>first |exact hr _ _ he |exact he
 exact .inr ⟨v,w',h1,hr _ _ h2⟩
def anu (Γ:Gl) (P:Program) (f:FuncId) (run:List Arg->(jD->aa)->aa):Prop:=∀ (args:List Arg) (kf:jD->aa) (ret:jD) (w:World) (σ:Nat->Option Nat) (fC:List Value) (H:Nat->Value) (B:Nat->Prop),run args kf=some ret->In Γ B H w σ args fC-> air P f fC w λv w'=>∃ rt,kf rt=some ret/\Out B H w w' σ rt v
def Sound (Γ:Gl) (P:Program) (f:FuncId) (run:List Arg->(jD->aa)->aa):Prop:=anu Γ P f run/\∀ as,jk (run as)
def ayK (Γ:Gl) (P:Program) (O:vi):Prop:=∀ f,Sound Γ P f (O.run f)
structure LD (Γ:Gl) (P:Program) (O:vi) (w0:World) (W0:Nat->Prop):Prop where
 sd:ayK Γ P O
 env:∀ g o,Γ g=some o->¬W0 g/\w0.heap[g]?=some o
theorem LD.det {W0:Nat->Prop} (h:LD Γ P O w0 W0):Ll O:=λf=>(h.sd f).2
variable {Γ:Gl}
theorem aq1 (h:∀ e∈l,Sound Γ P e.f e.run):ayK Γ P (vi.of l):=by
 intro f;have key:∀ (l:List Entry) (e:Entry),entry l f=some e->e∈l/\e.f=f:=by
  intro l;induction l with
  |nil=>intro e h;cases h
  |cons e' r ih=>
  intro e h;simp only[entry] at h;cases hb:Nat.beq e'.f f with
  |true=>rw[hb] at h;injection h with h;subst h;exact⟨by simp,aw hb⟩
  |false=>rw[hb] at h;obtain⟨h1,h2⟩:=ih e h;exact⟨by simp[h1],h2⟩
 simp only[vi.of];split
 ·rename_i e he;obtain⟨h1,h2⟩:=key l e he;rw[←h2];exact h e h1
 exact⟨λargs kf ret w σ fC H B hr=>(by cases hr),λ_=>jk.none⟩
theorem abw:∀ (t:Ty) {x:t.I} {cs:List Value},ub t=true->K w A t x cs->K w' A' t x cs
 | .int _,_,_,_,h=>h
 | .bool,_,_,_,h=>h
 | .str,_,_,_,h=>h
 | .unit,_,_,_,h=>h
 | .pair a b,x,cs,hf,h=>by simp only[ub,ai] at hf;simp only[K] at h ⊢;obtain⟨c0,c1,rfl,h0,h1⟩:=h;exact⟨c0,c1,rfl,abw a hf.1 h0,abw b hf.2 h1⟩
 | .arr n t,x,cs,hf,h=>by simp only[ub] at hf;simp only[K] at h ⊢;obtain⟨sr,rfl,hl,hx,hj⟩:=h;exact⟨sr,rfl,hl,hx,λj h1 h2=>abw t hf (hj j h1 h2)⟩
 | .mp,_,_,hf,_=>by simp[ub] at hf
theorem AZ:∀ (t:Ty) {m:Md} {x:t.I} {cs:List Value} {ow:Nat->Prop},uK t m=true->M w A H t m x cs ow []->M w A' H t m x cs ow []
 | .sl t,.o T tag me,xs,cs,ow,hs,h=>by
  simp only[uK] at hs;simp only[M] at h ⊢;rcases h with⟨hn,_⟩ |⟨hk,_⟩ |⟨T,tag,me,X,c,e1,e2,hc,ht,h⟩
  ·simp at hn
  ·simp[Md.fu] at hk
  injection e1 with e1 Uf LB;subst e1 Uf LB;refine .inr (.inr ⟨_,_,_,X,c,rfl,e2,hc,ht,?_⟩);rcases h with h |⟨g,cur,τ,h1,h2,h3,h4,h5,h6⟩
  ·exact .inl h
  exact .inr ⟨g,cur,τ,h1,h2,h3,h4,h5,λj hj=>AZ t hs (h6 j hj)⟩
 | .ptr t,.o T tag me,x,cs,ow,hs,h=>by
  simp only[uK] at hs;simp only[M] at h ⊢;rcases h with⟨hn,_⟩ |⟨hk,_⟩ |⟨T,tag,me,g,cur,e1,e2,ht,hg,hw,h⟩
  ·simp at hn
  ·simp[Md.fu] at hk
  injection e1 with e1 Uf LB;subst e1 Uf LB;exact .inr (.inr ⟨_,_,_,g,cur,rfl,e2,ht,hg,hw,AZ t hs h⟩)
 | .pair a b,.p ma mb,x,cs,ow,hs,h=>by
  simp only[uK,ai] at hs;simp only[M] at h ⊢;rcases h with⟨hn,_⟩ |⟨hk,h⟩ |⟨ma,mb,c0,c1,s,e1,e2,h0,h1⟩
  ·simp at hn
  ·simp only[K] at h;simp only[Md.fu,ai] at hk;obtain⟨c0,c1,e2,h0,h1⟩:=h;refine .inr (.inr ⟨ma,mb,c0,c1,λ_=>True,rfl,e2,AZ a hs.1 (KO hk.1 h0),AZ b hs.2 (KO hk.2 h1)⟩)
  injection e1 with e1 Uf;subst e1 Uf;exact .inr (.inr ⟨_,_,c0,c1,s,rfl,e2,AZ a hs.1 h0,AZ b hs.2 h1⟩)
 | .sl t,.k,xs,cs,ow,hs,h=>by simp[uK,ub] at hs
 | .sl t,.p _ _,xs,cs,ow,hs,h=>by simp[uK,ub] at hs
 | .ptr t,.k,xs,cs,ow,hs,h=>by simp[uK,ub] at hs
 | .ptr t,.p _ _,xs,cs,ow,hs,h=>by simp[uK,ub] at hs
 | .pair a b,.k,xs,cs,ow,hs,h=>by simp only[uK,ai] at hs;exact KO hs.1 (abw _ hs.2 (tJ _ hs.1 h))
 | .pair a b,.o ..,xs,cs,ow,hs,h=>by simp[uK,Md.fu] at hs
 | .int k,m,x,cs,ow,hs,h=>by simp only[M,K] at h ⊢;exact h
 | .bool,m,x,cs,ow,hs,h=>by simp only[M,K] at h ⊢;exact h
 | .str,m,x,cs,ow,hs,h=>by simp only[M,K] at h ⊢;exact h
 | .unit,m,x,cs,ow,hs,h=>by simp only[M,K] at h ⊢;exact h
 | .arr n t,m,x,cs,ow,hs,h=>by have hs:(m.fu&&ub (.arr n t))=true:=(by cases m<;>exact hs);simp only[ai] at hs;exact KO hs.1 (abw _ hs.2 (tJ _ hs.1 h))
 | .mp,m,x,cs,ow,hs,h=>by have hs:(m.fu&&ub .mp)=true:=(by cases m<;>exact hs);simp[ub] at hs
def Pk (σ:Nat->Option Nat) (n:Nat) (g:Nat):Prop:=∃ i,n<=i/\σ g=some i
theorem avi {ow:Nat->Prop} (hs:s<n) (ho:∀ g,ow g->σ g=some s) (h:M w (Av σ Z) H t m x cs ow []):K w (Pk σ n) t x cs:=
 M_K (λg _ hg=>by obtain⟨i,_,hi⟩:=hg;exact .inl ⟨i,hi⟩) t rfl (λg hg hx=>by
  obtain⟨i,hi,AY⟩:=hx
  rw[ho g hg] at AY
  injection AY with AY
  omega) h
theorem aq2 (h:dp σ w0 W0 Z H S a w) (ho:S.pT Θ T x=some av) (e:S.PK av=some b): ∃ cs,a7 b.t (a.eval x) cs/\K w (Pk σ S.length) b.t b.x cs:=by
 have hh:=eU h ho;cases av with
 |v a0 ex=>
  cases ex with
  |cons _ _=>simp[St.PK] at e
  |nil=>
  simp only[St.PK,ah] at e;subst e;obtain⟨cs,h1,h2⟩:=hh;cases x with
  |tmp i=>simp only[St.pT,ah] at ho;exact⟨cs,h1,avi (s:=i) (qF (by rw[ho];exact λe=>by cases e)) (λg hg=>by obtain⟨j,hj,hg⟩:=hg;injection hj with hj;subst hj;exact hg) h2⟩
  |const c=>exact⟨cs,h1,M_K (λg _ hg=>by obtain⟨i,_,hi⟩:=hg;exact .inl ⟨i,hi⟩) _ rfl (λg hg=>by obtain⟨j,hj,_⟩:=hg;cases hj) h2⟩
  |func f=>exact⟨cs,h1,M_K (λg _ hg=>by obtain⟨i,_,hi⟩:=hg;exact .inl ⟨i,hi⟩) _ rfl (λg hg=>by obtain⟨j,hj,_⟩:=hg;cases hj) h2⟩
  |global f=>exact⟨cs,h1,M_K (λg _ hg=>by obtain⟨i,_,hi⟩:=hg;exact .inl ⟨i,hi⟩) _ rfl (λg hg=>by obtain⟨j,hj,_⟩:=hg;cases hj) h2⟩
 |al t s p=>simp only[St.PK] at e;obtain⟨r,lB,cs,hr,hc,hm⟩:=hh;obtain⟨rfl,kF,k2,k3⟩:=nk h hr hc e;obtain⟨ex0,hs0,_⟩:=hr.at_;exact⟨cs,hm,avi (s:=s) (qF (by rw[hs0];exact λe=>by cases e)) k2 k3⟩
 |cut t s p lo hi=>
  simp only[St.PK] at e;obtain⟨r,lB,t',X,n,c,hr,rfl,hc,hlo,hhi,hv⟩:=hh;cases hp:S.place s p with
  |none=>rw[hp] at e;cases e
  |some b'=>obtain⟨ht,kF,k2,k3⟩:=nk h hr hc hp;obtain⟨bt,bm,bx⟩:=b';simp only at ht;subst ht;rw[hp] at e;simp only[ah] at e;subst e;obtain⟨ex0,hs0,_⟩:=hr.at_;have hK:=avi (s:=s) (n:=S.length) (qF (by rw[hs0];exact λe=>by cases e)) k2 k3;have hn:n=length bx:=(by simp only[K] at hK;obtain⟨_,_,e,_⟩:=hK;simp only[eB,fx,iO] at e;exact e.2.1);subst hn;rw[hv];exact⟨_,by simp[a7,isAgg],anh hK hlo hhi⟩
 |_=>simp[St.PK] at e
theorem aq3:cR w w (Av σ Z) (Pk σ n):=⟨λ_ _ _=>rfl,λg _ hg=>by obtain⟨i,_,hi⟩:=hg;exact .inl ⟨i,hi⟩⟩
theorem OA (h:dp σ w0 W0 Z H S a w):∀ {kE:List Cap} {l:List TV} {vs:List Value},MF S kE=some l->vs.length=kE.length->(∀ (j:Nat) (c:Cap),kE[j]?=some c->∃ u,vs[j]?=some u/\It w (Av σ Z) (gV a) S c u)-> l.length=kE.length/\∀ (j:Nat) (c:TV),l[j]?=some c->∃ u,vs[j]?=some u/\K w (Pk σ S.length) c.t c.x [u]
 |[],l,vs,e,_,_=>by simp only[MF,ah] at e;subst e;exact⟨rfl,λj c hj=>by simp at hj⟩
 |c::kE,l,vs,e,hl,hv=>by
  simp only[MF] at e
  split at e
  case h_2=>cases e
  rename_i b l2 hb hl2
  simp only[ah] at e
  subst e
  match vs,hl with
  |u::vs,hl=>
   obtain⟨h1,h2⟩:=OA h (vs:=vs) hl2 (by simpa using hl) (λj c hj=>by simpa using hv (j+1) c (by simpa using hj))
   refine⟨by simp[h1],λj c' hj=>?_⟩
   cases j with
   |succ j=>simpa using h2 j c' (by simpa using hj)
   |zero=>
    simp only[aE,ah] at hj
    subst hj
    obtain⟨u',hu,hc⟩:=hv 0 c rfl
    simp only[aE,ah] at hu
    subst hu
    refine⟨u,rfl,?_⟩
    cases c with
    |kv b'=>
     simp only[aen,ah] at hb
     subst hb
     exact fR aq3 _ hc
    |pl t s p=>
     simp only[aen] at hb
     split at hb
     case h_2=>cases hb
     rename_i b' hp
     simp only[ah] at hb
     subst hb
     obtain⟨r,lB,cs,hr,C1,hm⟩:=hc
     obtain⟨Qg,kF,k2,k3⟩:=nk h hr C1 hp
     obtain⟨ex0,hs0,_⟩:=hr.at_
     have hK:=avi (s:=s) (n:=S.length) (qF (by rw[hs0];exact λe=>by cases e)) k2 k3
     have:cs=[u]:=by simpa[a7,isAgg] using hm
     rw[this] at hK
     exact hK
theorem Sf:∀ (xs:List Operand) (Ts:List TypeId) (ps:List Pass) (j:Nat) {S S1:St} {σ:Nat->Option Nat} {l:List (Option TV)},dp σ w0 W0 Z H S a w->vC Θ S xs Ts ps=some (l,S1)-> ∃ (eK:Nat->Option Nat) (ow:Nat->Prop) (τ:Nat->Nat),dp eK w0 W0 Z H S1 a w/\S1.length=S.length/\vY σ eK S.length ow/\l.length=xs.length/\(∀ g,ow g->j<=τ g/\τ g<j+l.length)/\ ((∀ p∈ps,p=.val)->∀ g,¬ow g)/\ ∀ (k:Nat) (b:TV),l[k]?=some (some b)->∃ x cs,xs[k]?=some x/\a7 b.t (a.eval x) cs/\M w (Av σ Z) H b.t b.m b.x cs (λg=>ow g/\τ g=j+k) []
 |[],Ts,ps,j,S,S1,σ,l,h,e=>by simp only[vC,ah,aG] at e;obtain⟨rfl,rfl⟩:=e;exact⟨σ,λ_=>False,λ_=>j,h,rfl,vY.none _ _,rfl,λ_ h=>h.elim,λ_ _ h=>h,λk b hk=>by simp at hk⟩
 |x::xs,[],ps,j,S,S1,σ,l,h,e=>by simp[vC] at e
 |x::xs,T::Ts,[],j,S,S1,σ,l,h,e=>by simp[vC] at e
 |x::xs,T::Ts,p::ps,j,S,S1,σ,l,h,e=>by
  simp only[vC] at e
  split at e
  ·split at e
   case h_2=>cases e
   rename_i r hr
   simp only[ah,aG] at e
   obtain⟨rfl,rfl⟩:=e
   obtain⟨eK,ow,τ,k1,k2,k3,k4,k5,k6,k7⟩:=Sf xs Ts ps (j+1) h hr
   refine⟨eK,ow,τ,k1,k2,k3,by simp[k4],λg hg=>by have:=k5 g hg;simp only[an];omega,λhp=>k6 (λp hp'=>hp p (by simp[hp'])),λk b hk=>?_⟩
   cases k with
   |zero=>simp at hk
   |succ k=>
    obtain⟨x',cs,q1,q2,q3⟩:=k7 k b (by simpa using hk)
    exact⟨x',cs,by simpa using q1,q2,by rw[show j+(k+1)=j+1+k from by omega];exact q3⟩
  rotate_left
  ·cases e
  ·unfold St.take at e
   split at e
   case h_2=>cases e
   rename_i b S2 hb
   split at hb
   case h_2=>cases hb
   rename_i av pU
   split at e
   case h_2=>cases e
   rename_i r hr
   simp only[ah,aG] at e
   obtain⟨rfl,rfl⟩:=e
   obtain⟨eK,cs,ow,h1,hm,hM,hk,hn⟩:=rX h pU hb
   obtain⟨lR,Lv,τ,k1,k2,k3,k4,k5,k6,k7⟩:=Sf xs Ts ps (j+1) h1 hr
   rw[hn] at k3
   have hap:∀ g,ow g->¬Lv g:=λg hg=>hk.apart k3 hg
   let τ':Nat->Nat:=λg=>open Classical in if ow g then j else τ g
   refine⟨lR,λg=>ow g∨Lv g,τ',k1,by omega,hk.trans k3,by simp[k4],λg hg=>?_,λhp=>(λhx:Pass.take=Pass.val=>nomatch hx) (hp .take (by simp)),λk b' uI=>?_⟩
   ·simp only[τ',an]
    split
    ·omega
    ·rename_i hx
     have:=k5 g (hg.resolve_left hx)
     omega
   ·cases k with
    |zero=>
     simp only[aE,ah] at uI
     subst uI
     refine⟨x,cs,rfl,hm,ca (cR.refl _ _) _ (λ_ _ _=>rfl) (λg hg _=>⟨.inl hg,by simp only[τ',aA hg,dZ]⟩) (λ_ h=>h) hM⟩
    |succ k=>
     obtain⟨x',kY,q1,q2,q3⟩:=k7 k b' (by simpa using uI)
     refine⟨x',kY,by simpa using q1,q2,ca ⟨λ_ _ _=>rfl,λg _ hg=>hk.Av.2 hg⟩ _ (λ_ _ _=>rfl) (λg hg _=>⟨.inr hg.1,?_⟩) (λ_ h=>h) q3⟩
     simp only[τ']
     rw[aq (λhx=>hap g hx hg.1),hg.2]
     omega
theorem D7 (h:dp σ w0 W0 Z H S a w):∀ (xs:List Operand) (Ts:List TypeId) (l:List (Option TV)) {as:List Arg},l.length=xs.length->reads Θ S xs Ts l=some as-> as.length=xs.length/\∀ (k:Nat) (r:Arg),as[k]?=some r->(∃ b,l[k]?=some (some b)/\r=.tv b)∨∃ x,xs[k]?=some x/\∀ H,Za w (Pk σ S.length) H r (a.eval x) (λ_=>False)
 |[],Ts,l,as,_,e=>by simp only[reads,ah] at e;subst e;exact⟨rfl,λk r hk=>by simp at hk⟩
 |x::xs,[],l,as,hl,e=>by simp[reads] at e
 |x::xs,T::Ts,[],as,hl,e=>by simp at hl
 |x::xs,T::Ts,p::ps,as,hl,e=>by
  have hl':ps.length=xs.length:=(by simpa using hl);simp only[reads] at e;split at e
  ·rename_i b;split at e;case h_2=>cases e
   rename_i r hr;simp only[ah] at e;subst e;obtain⟨h1,h2⟩:=D7 h xs Ts ps hl' hr;refine⟨by simp[h1],λk r' hk=>?_⟩;cases k with
   |zero=>simp only[aE,ah] at hk;exact .inl ⟨b,rfl,hk.symm⟩
   |succ k=>simpa using h2 k r' (by simpa using hk)
  split at e
  ·rename_i f kE pU;split at e;case h_2=>cases e
   rename_i cs r wS hr;simp only[ah] at e;subst e;obtain⟨h1,h2⟩:=D7 h xs Ts ps hl' hr;refine⟨by simp[h1],λk r' hk=>?_⟩;cases k with
   |zero=>simp only[aE,ah] at hk;subst hk;obtain⟨vs,v1,v2,v3⟩:=eU h pU;obtain⟨c1,c2⟩:=OA h wS v2 v3;exact .inr ⟨x,rfl,λ_=>⟨vs,v1,by omega,c2⟩⟩
   |succ k=>simpa using h2 k r' (by simpa using hk)
  ·rename_i av _ pU;split at e;case h_2=>cases e
   rename_i b r hb hr;simp only[ah] at e;subst e;obtain⟨h1,h2⟩:=D7 h xs Ts ps hl' hr;refine⟨by simp[h1],λk r' hk=>?_⟩;cases k with
   |zero=>simp only[aE,ah] at hk;subst hk;obtain⟨cs,c1,c2⟩:=aq2 h pU hb;exact .inr ⟨x,rfl,λ_=>⟨cs,c1,ua _ c2⟩⟩
   |succ k=>simpa using h2 k r' (by simpa using hk)
  cases e
theorem IA (h:dp σ w0 W0 Z H S a w):∀ (xs:List Operand) (Ts:List TypeId) (l:List (Option TV)) {as:List Arg},l.length=xs.length->reads Θ S xs Ts l=some as->xS S xs l as=true-> ∀ (k:Nat) (r:Arg),as[k]?=some r->(∃ b,l[k]?=some (some b)/\r=.tv b)∨∃ x,xs[k]?=some x/\∀ H,Za w (Av σ Z) H r (a.eval x) (λ_=>False)
 |[],Ts,l,as,_,e,_=>by simp only[reads,ah] at e;subst e;exact λk r hk=>by simp at hk
 |x::xs,[],l,as,hl,e,_=>by simp[reads] at e
 |x::xs,T::Ts,[],as,hl,e,_=>by simp at hl
 |x::xs,T::Ts,p::ps,as,hl,e,hf=>by
  have hl':ps.length=xs.length:=(by simpa using hl);have tZ:=(D7 h (x::xs) (T::Ts) (p::ps) hl e).2;simp only[reads] at e;split at e
  ·rename_i b;split at e;case h_2=>cases e
   rename_i r hr;simp only[ah] at e;subst e;simp only[xS,Bool.true_or,aB] at hf;have h2:=IA h xs Ts ps hl' hr hf;intro k r' hk;cases k with
   |zero=>simp only[aE,ah] at hk;exact .inl ⟨b,rfl,hk.symm⟩
   |succ k=>simpa using h2 k r' (by simpa using hk)
  split at e
  ·rename_i f kE pU;split at e;case h_2=>cases e
   rename_i cs r wS hr;simp only[ah] at e;subst e;simp only[xS,eV,ai,List.isEmpty_iff] at hf;obtain⟨hf1,hf2⟩:=hf;have h2:=IA h xs Ts ps hl' hr hf2;intro k r' hk;cases k with
   |succ k=>simpa using h2 k r' (by simpa using hk)
   |zero=>
   simp only[aE,ah] at hk;subst hk;rcases tZ 0 _ rfl with⟨b',hb',_⟩ |⟨x',N9,AI⟩
   ·simp at hb'
   simp only[aE,ah] at N9;subst N9;refine .inr ⟨x,rfl,λH'=>?_⟩;obtain⟨vs,v1,v2,v3⟩:=AI H';exact⟨vs,v1,v2,λj c hj=>by rw[hf1] at hj;simp at hj⟩
  ·rename_i av _ pU;split at e;case h_2=>cases e
   rename_i b r hb hr;simp only[ah] at e;subst e;simp only[xS,eV,ai,bo] at hf;obtain⟨hf1,hf2⟩:=hf;have h2:=IA h xs Ts ps hl' hr hf2;intro k r' hk;cases k with
   |succ k=>simpa using h2 k r' (by simpa using hk)
   |zero=>
   simp only[aE,ah] at hk;subst hk;rcases hf1 with hs |hs
   ·rcases tZ 0 _ rfl with⟨b',hb',_⟩ |⟨x',N9,AI⟩
    ·simp at hb'
    simp only[aE,ah] at N9;subst N9;refine .inr ⟨x,rfl,λH'=>?_⟩;obtain⟨cs,c1,c2⟩:=AI H';exact⟨cs,c1,AZ _ hs c2⟩
   refine .inr ⟨x,rfl,λH'=>?_⟩;have hh:=eU h pU;cases x with
   |func f=>simp[Rp] at hs
   |global f=>simp[Rp] at hs
   |tmp i=>
   simp only[St.pT,ah] at pU;subst pU;simp only[Rp] at hs;split at hs
   ·rename_i b0 hb0;rw[hb0] at hh hb;simp only[St.PK,ah] at hb;subst hb;obtain⟨cs,c1,c2⟩:=hh;exact⟨cs,c1,KO rfl (tJ _ hs c2)⟩
   cases hs
   |const c=>
   have hk:∀ a0,av=.v a0 []->∀ H',Za w (Av σ Z) H' (.tv (kTV b)) (a.eval (.const c)) λ_=>False:=λa0 e H'=>(by subst e;simp only[St.PK,ah] at hb;subst hb;have hh:=eU h pU;obtain⟨cs,c1,c2⟩:=hh;exact⟨cs,c1,KO rfl (M_K (λg _ hg=>hg) _ rfl (λg hg=>by obtain⟨j,hj,_⟩:=hg;cases hj) c2)⟩);simp only[St.pT] at pU;cases hc:JZ Θ T c with
   |none=>rw[hc] at pU;cases pU
   |some a0=>rw[hc] at pU;simp only[aS,ah] at pU;exact hk a0 pU.symm H'
  cases e
end Go.Pv
namespace Go.Pv
open List Int IntKind
variable {P:Program} {w w':World} {A A' B Wr:Nat->Prop} {H H':Nat->Value}
theorem Gt:∀ (t:Ty) {m:Md} {x:t.I} {cs:List Value} {ow:Nat->Prop} {hs:List Path},J5 m=true->M w A H t m x cs ow hs->M w A H' t m x cs ow hs
 | .int _,_,_,_,_,_,_,h=>by simp only[M] at h ⊢;exact h
 | .bool,_,_,_,_,_,_,h=>by simp only[M] at h ⊢;exact h
 | .str,_,_,_,_,_,_,h=>by simp only[M] at h ⊢;exact h
 | .unit,_,_,_,_,_,_,h=>by simp only[M] at h ⊢;exact h
 | .arr _ _,_,_,_,_,_,_,h=>by simp only[M] at h ⊢;exact h
 | .mp,m,x,cs,ow,hs,hb,h=>by
  simp only[M] at h ⊢;rcases h with h |h |⟨T,tag,g,es,n,rfl,e2,ht,hg,hw,h⟩
  ·exact .inl h
  ·exact .inr (.inl h)
  simp only[J5,ai] at hb;cases tag with
  |some _=>cases hb.1
  |none=>exact .inr (.inr ⟨T,none,g,es,n,rfl,e2,λh hh=>(by cases hh),hg,hw,h⟩)
 | .sl t,m,xs,cs,ow,hs,hb,h=>by
  simp only[M] at h ⊢;rcases h with h |h |⟨T,tag,me,X,c,rfl,e2,hc,ht,h⟩
  ·exact .inl h
  ·exact .inr (.inl h)
  simp only[J5,ai] at hb;obtain⟨hb1,hb2⟩:=hb;cases tag with
  |some _=>cases hb1
  |none=>
  refine .inr (.inr ⟨T,none,me,X,c,rfl,e2,hc,λh hh=>(by cases hh),?_⟩);rcases h with h |⟨g,cur,τ,h1,h2,h3,h4,h5,h6⟩
  ·exact .inl h
  exact .inr ⟨g,cur,τ,h1,h2,h3,h4,h5,λj hj=>Gt t hb2 (h6 j hj)⟩
 | .ptr t,m,x,cs,ow,hs,hb,h=>by
  simp only[M] at h ⊢;rcases h with h |h |⟨T,tag,me,g,cur,rfl,e2,ht,hg,hw,h⟩
  ·exact .inl h
  ·exact .inr (.inl h)
  simp only[J5,ai] at hb;obtain⟨hb1,hb2⟩:=hb;cases tag with
  |some _=>cases hb1
  |none=>exact .inr (.inr ⟨T,none,me,g,cur,rfl,e2,λh hh=>(by cases hh),hg,hw,Gt t hb2 h⟩)
 | .pair a b,m,x,cs,ow,hs,hb,h=>by
  simp only[M] at h ⊢;rcases h with h |h |⟨ma,mb,c0,c1,s,rfl,e2,h0,h1⟩
  ·exact .inl h
  ·exact .inr (.inl h)
  simp only[J5,ai] at hb;exact .inr (.inr ⟨ma,mb,c0,c1,s,rfl,e2,Gt a hb.1 h0,Gt b hb.2 h1⟩)
theorem LF:∀ (t:Ty) {m:Md} {n:Nat},m.fu=true->(xD t m n).fu=true
 | .int _,m,n,h=>by simpa[xD] using h
 | .bool,m,n,h=>by simpa[xD] using h
 | .str,m,n,h=>by simpa[xD] using h
 | .unit,m,n,h=>by simpa[xD] using h
 | .arr _ _,m,n,h=>by simpa[xD] using h
 | .mp,m,n,h=>by cases m<;>simp_all [xD,Md.fu]
 | .sl t,m,n,h=>by cases m<;>simp_all [xD,Md.fu]
 | .ptr t,m,n,h=>by cases m<;>simp_all [xD,Md.fu]
 | .pair a b,m,n,h=>by
  cases m with
  |k=>simp[xD,Md.fu]
  |o=>simp[Md.fu] at h
  |p ma mb=>simp only[Md.fu,ai] at h;simp only[xD,Md.fu,ai];exact⟨LF a h.1,LF b h.2⟩
theorem D8:∀ (t:Ty) {m:Md} {x y:t.I},m.fu=true->rM t m x y=x
 | .int _,m,x,y,h=>rfl
 | .bool,m,x,y,h=>rfl
 | .str,m,x,y,h=>rfl
 | .unit,m,x,y,h=>rfl
 | .arr _ _,m,x,y,h=>rfl
 | .mp,m,x,y,h=>by cases m<;>simp_all [rM,Md.fu]
 | .sl t,m,x,y,h=>by cases m<;>simp_all [rM,Md.fu]
 | .ptr t,m,x,y,h=>by cases m<;>simp_all [rM,Md.fu]
 | .pair a b,m,x,y,h=>by
  cases m with
  |k=>simp[rM]
  |o=>simp[Md.fu] at h
  |p ma mb=>simp only[Md.fu,ai] at h;simp only[rM];rw[D8 a h.1,D8 b h.2]
theorem aq4:∀ (t:Ty) {m:Md} {x:t.I} {cs:List Value} {ow:Nat->Prop} {n:Nat},sX t m=true->M w A H t m x cs ow []->(∀ (j:Nat) (u:Value),cs[j]?=some u->H' (n+j)=u)->M w A H' t (xD t m n) x cs ow []
 | .int _,_,_,_,_,_,_,h,_=>by simp only[M,xD] at h ⊢;exact h
 | .bool,_,_,_,_,_,_,h,_=>by simp only[M,xD] at h ⊢;exact h
 | .str,_,_,_,_,_,_,h,_=>by simp only[M,xD] at h ⊢;exact h
 | .unit,_,_,_,_,_,_,h,_=>by simp only[M,xD] at h ⊢;exact h
 | .arr _ _,_,_,_,_,_,_,h,_=>by simp only[M,xD] at h ⊢;exact h
 | .mp,m,x,cs,ow,n,hl,h,hH=>by
  simp only[M] at h ⊢;rcases h with⟨h,_⟩ |⟨hk,h⟩ |⟨T,tag,g,es,k,rfl,rfl,ht,hg,hw,h⟩
  ·simp at h
  ·exact .inr (.inl ⟨LF .mp hk,h⟩)
  refine .inr (.inr ⟨T,some n,g,es,k,rfl,rfl,λh hh=>?_,hg,hw,h⟩);injection hh with hh;subst hh;exact hH 0 _ rfl
 | .sl t,m,xs,cs,ow,n,hl,h,hH=>by
  simp only[M] at h ⊢;rcases h with⟨h,_⟩ |⟨hk,h⟩ |⟨T,tag,me,X,c,rfl,rfl,hc,ht,h⟩
  ·simp at h
  ·exact .inr (.inl ⟨LF (.sl t) hk,h⟩)
  simp only[sX,ai] at hl;refine .inr (.inr ⟨T,some n,me,X,c,rfl,rfl,hc,λh hh=>?_,?_⟩)
  ·injection hh with hh;subst hh;exact hH 0 _ rfl
  rcases h with h |⟨g,cur,τ,h1,h2,h3,h4,h5,h6⟩
  ·exact .inl h
  exact .inr ⟨g,cur,τ,h1,h2,h3,h4,h5,λj hj=>Gt t hl (h6 j hj)⟩
 | .ptr t,m,x,cs,ow,n,hl,h,hH=>by
  simp only[M] at h ⊢;rcases h with⟨h,_⟩ |⟨hk,h⟩ |⟨T,tag,me,g,cur,rfl,rfl,ht,hg,hw,h⟩
  ·simp at h
  ·exact .inr (.inl ⟨LF (.ptr t) hk,h⟩)
  simp only[sX,ai] at hl;refine .inr (.inr ⟨T,some n,me,g,cur,rfl,rfl,λh hh=>?_,hg,hw,Gt t hl h⟩);injection hh with hh;subst hh;exact hH 0 _ rfl
 | .pair a b,m,x,cs,ow,n,hl,h,hH=>by
  simp only[M] at h ⊢;rcases h with⟨h,_⟩ |⟨hk,h⟩ |⟨ma,mb,c0,c1,s,rfl,rfl,h0,h1⟩
  ·simp at h
  ·exact .inr (.inl ⟨LF (.pair a b) hk,h⟩)
  simp only[sX,ai] at hl;have hl0:=(rK a h0).1;refine .inr (.inr ⟨_,_,c0,c1,s,rfl,rfl,aq4 a hl.1 h0 (λj u hj=>hH j u ?_),aq4 b hl.2 h1 (λj u hj=>?_)⟩)
  ·rw[dY (bO.1 hj).1];exact hj
  rw[fv];refine hH (a.size+j) u ?_;rw[cL (by omega),hl0,iP];exact hj
theorem Up (gy:cR w w' A A'):∀ (t:Ty) {m:Md} {x y:t.I} {cs kY:List Value} {ow kF:Nat->Prop} {n:Nat},sX t m=true->(Oh t m=true∨cR w' w' B A')->M w A H t m x cs ow []->(∀ (j:Nat) (u:Value),cs[j]?=some u->H' (n+j)=u)-> M w' B H' t (xD t m n) y kY kF []->M w' A' H t m (rM t m x y) cs kF []
 | .int _,_,_,_,_,_,_,_,_,_,_,h,_,_=>by simp only[M,rM] at h ⊢;exact⟨h.1,fR gy _ h.2⟩
 | .bool,_,_,_,_,_,_,_,_,_,_,h,_,_=>by simp only[M,rM] at h ⊢;exact⟨h.1,fR gy _ h.2⟩
 | .str,_,_,_,_,_,_,_,_,_,_,h,_,_=>by simp only[M,rM] at h ⊢;exact⟨h.1,fR gy _ h.2⟩
 | .unit,_,_,_,_,_,_,_,_,_,_,h,_,_=>by simp only[M,rM] at h ⊢;exact⟨h.1,fR gy _ h.2⟩
 | .arr _ _,_,_,_,_,_,_,_,_,_,_,h,_,_=>by simp only[M,rM] at h ⊢;exact⟨h.1,fR gy _ h.2⟩
 | .mp,m,x,y,cs,kY,ow,kF,n,hl,hB,h,hH,h'=>by
  simp only[M] at h;rcases h with⟨h,_⟩ |⟨hk,h⟩ |⟨T,tag,g,es,k,rfl,rfl,ht,hg,hw,h⟩
  ·simp at h
  ·rw[D8 _ hk];exact KO hk (fR gy _ h)
  simp only[xD,M] at h';rcases h' with⟨h',_⟩ |⟨hk,_⟩ |⟨T2,aia,g2,es2,k2,e1,e2,ht2,MD,MC,h'⟩
  ·simp at h'
  ·simp[Md.fu] at hk
  injection e1 with e1 Uf LB;subst e1 Uf;have q1:=ht2 n rfl;rw[show H' n=.map (some g) from hH 0 _ rfl] at q1;injection q1 with q1;injection q1 with q1;subst q1;simp only[M,rM];exact .inr (.inr ⟨T,tag,g,es2,k2,rfl,rfl,ht,MD,MC,h'⟩)
 | .sl t,m,xs,ys,cs,kY,ow,kF,n,hl,hB,h,hH,h'=>by
  simp only[M] at h;rcases h with⟨h,_⟩ |⟨hk,h⟩ |⟨T,tag,me,X,c,rfl,rfl,hc,ht,h⟩
  ·simp at h
  ·rw[D8 _ hk];exact KO hk (fR gy _ h)
  simp only[sX,ai] at hl;simp only[xD,M] at h';rcases h' with⟨h',_⟩ |⟨hk,_⟩ |⟨T2,aia,me2,X2,c2,e1,e2,hc2,ht2,h'⟩
  ·simp at h'
  ·simp[Md.fu] at hk
  injection e1 with e1 Uf LB;subst e1 Uf LB;have q1:=ht2 n rfl;rw[show H' n=.slice X xs.length c from hH 0 _ rfl] at q1;injection q1 with q1 q2 q3;subst q1 q3;simp only[M,rM];refine .inr (.inr ⟨T,tag,me,X,c,rfl,by rw[q2],hc2,λh hh=>by rw[ht h hh,q2],?_⟩);rcases h' with h' |⟨g,cur,τ,k1,k2,k3,k4,k5,k6⟩
  ·exact .inl h'
  exact .inr ⟨g,cur,τ,k1,k2,k3,k4,k5,λj hj=>hB.elim (λhs=>AZ t hs (Gt t hl (k6 j hj))) λgy=>ca gy t (λ_ _ _=>rfl) (λ_ h _=>h) (λ_ h=>h) (Gt t hl (k6 j hj))⟩
 | .ptr t,m,x,y,cs,kY,ow,kF,n,hl,hB,h,hH,h'=>by
  simp only[M] at h;rcases h with⟨h,_⟩ |⟨hk,h⟩ |⟨T,tag,me,g,cur,rfl,rfl,ht,hg,hw,h⟩
  ·simp at h
  ·rw[D8 _ hk];exact KO hk (fR gy _ h)
  simp only[sX,ai] at hl;simp only[xD,M] at h';rcases h' with⟨h',_⟩ |⟨hk,_⟩ |⟨T2,aia,me2,g2,vW,e1,e2,ht2,MD,MC,h'⟩
  ·simp at h'
  ·simp[Md.fu] at hk
  injection e1 with e1 Uf LB;subst e1 Uf LB;have q1:=ht2 n rfl;rw[show H' n=.pointer (some ⟨g,0,none⟩) from hH 0 _ rfl] at q1;injection q1 with q1;injection q1 with q1;injection q1 with q1;subst q1;simp only[M,rM];exact .inr (.inr ⟨T,tag,me,g,vW,rfl,rfl,ht,MD,MC,hB.elim (λhs=>AZ t hs (Gt t hl h')) λgy=>ca gy t (λ_ _ _=>rfl) (λ_ h _=>h) (λ_ h=>h) (Gt t hl h')⟩)
 | .pair a b,m,x,y,cs,kY,ow,kF,n,hl,hB,h,hH,h'=>by
  simp only[M] at h;rcases h with⟨h,_⟩ |⟨hk,h⟩ |⟨ma,mb,c0,c1,s,rfl,rfl,h0,h1⟩
  ·simp at h
  ·rw[D8 _ hk];exact KO hk (fR gy _ h)
  simp only[sX,ai] at hl;have hBa:Oh a ma=true∨cR w' w' B A':=hB.imp (λh=>by simp only[Oh,ai] at h;exact h.1) id;have hBb:Oh b mb=true∨cR w' w' B A':=hB.imp (λh=>by simp only[Oh,ai] at h;exact h.2) id;have hl0:=(rK a h0).1;have hH0:∀ (j:Nat) (u:Value),c0[j]?=some u->H' (n+j)=u:=λj u hj=>hH j u (by rw[dY (bO.1 hj).1];exact hj);have hH1:∀ (j:Nat) (u:Value),c1[j]?=some u->H' (n+a.size+j)=u:=λj u hj=>by rw[fv];refine hH (a.size+j) u ?_;rw[cL (by omega),hl0,iP];exact hj
  simp only[xD,M] at h';simp only[M,rM];rcases h' with⟨h',_⟩ |⟨hk,h'⟩ |⟨ma2,mb2,d0,d1,s2,e1,e2,k0,k1⟩
  ·simp at h'
  ·simp only[Md.fu,ai] at hk;simp only[K] at h';obtain⟨d0,d1,e2,k0,k1⟩:=h';exact .inr (.inr ⟨ma,mb,c0,c1,λ_=>True,rfl,rfl,Up gy a hl.1 hBa h0 hH0 (KO hk.1 k0),Up gy b hl.2 hBb h1 hH1 (KO hk.2 k1)⟩)
  injection e1 with e1 Uf;subst e1 Uf;exact .inr (.inr ⟨ma,mb,c0,c1,s2,rfl,rfl,Up gy a hl.1 hBa h0 hH0 k0,Up gy b hl.2 hBb h1 hH1 k1⟩)
end Go.Pv
namespace Go.Pv
open List Int IntKind
variable {P:Program} {w w':World} {A A' Wr:Nat->Prop} {H:Nat->Value} {tm Nj:Nat->Value} {S S' S1:St} {σ eK lR:Nat->Option Nat} {w0:World} {W0 Z:Nat->Prop} {a:Act} {own:Nat->Prop} {v:Value} {Θ:nh} {dst:Option Nat} {O:vi} {hh:Hint} {Γ:Gl}
theorem Fr.trans {W1:Nat->Prop} (h:Fr w0 W0 w) (h1:Fr w W1 w') (hw:∀ g,W1 g->g<w0.heap.size->W0 g):Fr w0 W0 w':=by refine⟨h1.os.trans h.os,h1.tape.trans h.tape,h1.output.trans h.output,vG h.size h1.size,λg hg hn=>?_⟩;rw[h1.block g (by have:=h.size;omega) (λhx=>hn (hw g hx hg))];exact h.block g hg hn
theorem anv (hT:ke P hh.tab=true) (hO:LD Γ P O w0 W0) (h:dp σ w0 W0 Z H S a w) {K:St->aa}
  (aDM:(cal=none/\XC=[])∨∃ i,cal=some i/\gV a i=.func (.func f) #[] XC.toArray) (e:xC hh O o f cal as ts S K=some ret):
  air P f (as.map a.eval++XC) w λv w'=>∃ S',K S'=some ret/\Rel w0 W0 Z H S' (a.put o.dst v) w'/\((∀ p∈O.sig f,p=.val)->Ext w w'):=by
 unfold xC at e
 split at e
 case h_2=>cases e
 rename_i l S1 hl
 split at e
 case h_2=>cases e
 rename_i args cs aeS wS
 obtain⟨eK,ow,τ,t1,t2,t3,t4,t5,t6,t7⟩:=Sf as ts (O.sig f) 0 h hl
 obtain⟨r1,r2⟩:=D7 t1 as ts l t4 aeS
 -- the captured values
 have apa:cs.length=XC.length/\∀ (j:Nat) (c:TV),cs[j]?=some c->am7 c=true/\∃ u,XC[j]?=some u/\Go.Pv.K w (Pk eK S1.length) c.t c.x [u]:=by
  rcases aDM with⟨rfl,rfl⟩ |⟨i,rfl,hv⟩
  ·simp only[Og,ah] at wS
   subst wS
   exact⟨rfl,λj c hj=>by simp at hj⟩
  ·simp only[Og] at wS
   split at wS
   case h_2=>cases wS
   rename_i f' kE nM
   cases hb:Nat.beq f' f with
   |false=>rw[hb] at wS;cases wS
   |true=>
    rw[hb] at wS
    simp only[ab] at wS
    have hold:=t1.holds i
    rw[nM] at hold
    obtain⟨vs,v1,v2,v3⟩:=hold
    rw[hv] at v1
    injection v1 with _ _ v1
    have hvs:XC=vs:=by
     have:=bB Array.toList v1
     simpa using this
    subst hvs
    split at wS
    case h_2=>cases wS
    rename_i l' hl'
    cases hp:l'.all am7 with
    |false=>rw[hp] at wS;cases wS
    |true=>
     rw[hp] at wS
     simp only[ab,ah] at wS
     subst wS
     obtain⟨c1,c2⟩:=OA t1 hl' v2 v3
     exact⟨by omega,λj c hj=>⟨aO.1 hp c (dv hj),c2 j c hj⟩⟩
 -- the callee's arguments
 let Sg:Nat->Option Nat:=λg=>open Classical in if ow g then some (τ g) else none
 have Sh:∀ g i,Sg g=some i↔ow g/\τ g=i:=λg i=>by
  simp only[Sg]
  split
  ·rename_i hx;exact⟨λhg=>⟨hx,by injection hg⟩,λhg=>by rw[hg.2]⟩
  ·rename_i hx;exact⟨λhg=>(by cases hg),λhg=>absurd hg.1 hx⟩
 have Qj:∀ g,Own Sg g↔ow g:=λg=>⟨λ⟨i,hi⟩=>((Sh g i).1 hi).1,λhg=>⟨τ g,(Sh g _).2 ⟨hg,rfl⟩⟩⟩
 have hpk:∀ g,ow g->Pk eK S1.length g:=λg hg=>by rw[t2];exact t3.now g hg
 obtain⟨NR,Uq⟩:∃ NR,NR=(cs.isEmpty&&xS S1 as l args):=⟨_,rfl⟩
 let B:Nat->Prop:=λg=>NR=true/\Av σ Z g/\ ¬ow g
 have alc:cR w w (Av σ Z) (Av Sg B):=⟨λ_ _ _=>rfl,λg _ hg=>by
  rcases hg with hg |hg
  ·obtain⟨i,_,hi⟩:=t3.was g ((Qj g).1 hg)
   exact .inl ⟨i,hi⟩
  ·exact hg.2.1⟩
 have ayL:cR w w (Av eK Z) (Av Sg B):=⟨λ_ _ _=>rfl,λg hl hg=>t3.Av.2 (alc.wr g hl hg)⟩
 have avj:NR=false->cR w w (Pk eK S1.length) (Av Sg B):=λhn=>⟨λ_ _ _=>rfl,λg _ hg=>by
  rcases hg with hg |hg
  ·exact hpk g ((Qj g).1 hg)
  ·have h1:=hg.1;rw[hn] at h1;cases h1⟩
 have r3:=λhf:NR=true=>IA t1 as ts l t4 aeS (by rw[hf] at Uq;exact(ai _ _▸Uq.symm).2)
 have mI:In Γ B H w Sg (args++cs.map .tv) (as.map a.eval++XC):=by
  refine⟨by simp[r1,apa.1],λg i hg=>?_,λg hg=>⟨?_,?_⟩,λg o hg=>⟨?_,?_⟩,λj r hj=>?_⟩
  ·obtain⟨q1,q2⟩:=(Sh g i).1 hg
   have:=(t5 g q1).2
   obtain⟨k,_,hk⟩:=t3.was g q1
   exact⟨by simp only[au];omega,h.lt g k hk⟩
  ·cases hc:Sg g with
   |none=>rfl
   |some i=>exact absurd ((Sh g i).1 hc).1 hg.2.2
  ·rcases hg.2.1 with⟨i,hi⟩ |hz
   ·exact h.lt g i hi
   ·have:=(h.old g hz).2;have:=h.fr.size;omega
  ·cases hc:Sg g with
   |none=>rfl
   |some i=>
    obtain⟨k,_,hk⟩:=t3.was g ((Sh g i).1 hc).1
    obtain⟨e1,e2⟩:=hO.env g o hg
    rcases h.new g k hk with hx |hx
    ·have:=dz e2;omega
    ·exact absurd hx e1
  ·obtain⟨e1,e2⟩:=hO.env g o hg
   rw[h.fr.block g (dz e2) e1,e2]
  ·rcases gP j args.length with Np |Np
   ·rw[dY Np] at hj
    rw[dY (by simp only[bh];omega),bR]
    rcases r2 j r hj with⟨b,hb,rfl⟩ |⟨x,hx,AI⟩
    ·obtain⟨x,c,q1,q2,q3⟩:=t7 j b hb
     rw[q1]
     exact⟨_,rfl,c,q2,ca alc _ (λ_ _ _=>rfl) (λg hg _=>(Sh g j).2 ⟨hg.1,by rw[hg.2];omega⟩) (λ_ h=>h) q3⟩
    ·have fin:∀ {A0:Nat->Prop},cR w w A0 (Av Sg B)->Za w A0 H r (a.eval x) (λ_=>False)->Za w (Av Sg B) H r (a.eval x) (λg=>Sg g=some j):=λgy AI=>by
      cases r with
      |tv b=>
       obtain⟨c,c1,c2⟩:=AI
       exact⟨c,c1,ca gy _ (λ_ _ _=>rfl) (λ_ hg _=>hg.elim) (λ_ h=>h) c2⟩
      |fn f' kE=>
       obtain⟨vs,c1,c2,c3⟩:=AI
       exact⟨vs,c1,c2,λk c hk=>by obtain⟨u,u1,u2⟩:=c3 k c hk;exact⟨u,u1,fR gy _ u2⟩⟩
     cases hfn:NR with
     |false=>
      rw[hx]
      exact⟨_,rfl,fin (avj hfn) (AI H)⟩
     |true=>
      rcases r3 hfn j r hj with⟨b,hb,rfl⟩ |⟨x',N9,ayM⟩
      ·obtain⟨x,c,q1,q2,q3⟩:=t7 j b hb
       rw[q1]
       exact⟨_,rfl,c,q2,ca alc _ (λ_ _ _=>rfl) (λg hg _=>(Sh g j).2 ⟨hg.1,by rw[hg.2];omega⟩) (λ_ h=>h) q3⟩
      ·rw[hx] at N9
       injection N9 with N9
       subst N9
       rw[hx]
       exact⟨_,rfl,fin ayL (ayM H)⟩
   ·rw[cL Np,bR] at hj
    cases hc:cs[j - args.length]? with
    |none=>rw[hc] at hj;cases hj
    |some c=>
     rw[hc] at hj
     injection hj with hj
     subst hj
     obtain⟨u0,u,u1,u2⟩:=apa.2 _ c hc
     refine⟨u,?_,?_⟩
     ·rw[cL (by simp only[bh];omega)]
      simpa[r1] using u1
     ·have hfn:NR=false:=by
       cases hf:NR with
       |false=>rfl
       |true=>
        rw[hf] at Uq
        cases cs with
        |nil=>simp at hc
        |cons _ _=>simp at Uq
      have hK:=fR (avj hfn) _ u2
      obtain⟨ct,cm,cx⟩:=c
      unfold am7 at u0
      split at u0
      ·rename_i t ht
       simp only at ht u0 hK
       subst ht
       exact⟨[u],by simp[a7,isAgg],KO u0 hK⟩
      ·cases u0
 refine((hO.sd f).1 _ _ ret w Sg _ H B e mI).mono λv w' hv=>?_
 obtain⟨rt,XB,ad4⟩:=hv
 split at XB
 case h_2=>cases XB
 cases aq5:(rt.res.all (λd=>uK d.t d.m)||(cs.isEmpty&&xS S1 as l args)) with
 |false=>rw[aq5] at XB;cases XB
 |true=>
 rw[aq5] at XB
 simp only[ab] at XB
 rw[←Uq,bo] at aq5
 refine⟨_,XB,?_,λtZ g hg=>ad4.fr.block g hg (λhx=>t6 tZ g ((Qj g).1 hx))⟩
 -- behind the call
 obtain⟨nK,vs,q1,q2,q3,q4,_⟩:=ad4.res
 let n:=S1.length
 let N':Nat->Option Nat:=λg=>match nK g with
  |some i=>some (S1.length+i)
  |none=>open Classical in if ow g then none else eK g
 have ad5:∀ g i,N' g=some i->(∃ k,nK g=some k/\i=S1.length+k)∨(nK g=none/\ ¬ow g/\eK g=some i):=λg i hg=>by
  simp only[N'] at hg
  split at hg
  ·rename_i k hk
   injection hg with hg
   exact .inl ⟨k,hk,hg.symm⟩
  ·rename_i hk
   split at hg
   ·cases hg
   ·exact .inr ⟨hk,by assumption,hg⟩
 have aeT:∀ g k,nK g=some k->N' g=some (S1.length+k):=λg k hk=>by simp only[N',hk]
 have anw:∀ g i,nK g=none->¬ow g->eK g=some i->N' g=some i:=λg i h1 h2 h3=>by simp only[N',h1,aq h2,h3]
 have Rw:∀ g,g<w.heap.size->¬ow g->w'.heap[g]?=w.heap[g]?:=λg hg hn=>ad4.fr.block g hg (λhx=>hn ((Qj g).1 hx))
 have abx:∀ g,g<w.heap.size->∀ k,nK g=some k->ow g:=λg hg k hk=>by
  rcases(q3 g k hk).1 with hx |hx
  ·omega
  ·exact(Qj g).1 hx
 have gy:cR w w' (Av eK Z) (Av N' Z):=⟨λg hn hg=>Rw g hg (λhx=>hn (by obtain⟨i,_,hi⟩:=hpk g hx;exact .inl ⟨i,hi⟩)),λg hg hx=>by
  rcases hx with⟨i,hx⟩ |hx
  ·rcases ad5 g i hx with⟨k,hk,_⟩ |⟨_,_,hk⟩
   ·obtain⟨i,_,hi⟩:=hpk g (abx g hg k hk)
    exact .inl ⟨i,hi⟩
   ·exact .inl ⟨i,hk⟩
  ·exact .inr hx⟩
 have XD:∀ g,ow g->∀ i,eK g=some i->S1.length<=i:=λg hg i hi=>by
  obtain⟨j,hj,Mt⟩:=hpk g hg
  rw[hi] at Mt
  injection Mt with Mt
  omega
 have hR:dp N' w0 W0 Z H S1 a w':=by
  refine⟨t1.len,t1.defers,t1.fr.trans ad4.fr (λg hg hl=>?_),λg i hg=>?_,λg i hg=>?_,λg hg=>⟨?_,(t1.old g hg).2⟩,λi=>?_⟩
  ·obtain⟨i,_,hi⟩:=hpk g ((Qj g).1 hg)
   rcases t1.new g i hi with hx |hx
   ·omega
   ·exact hx
  ·rcases ad5 g i hg with⟨k,hk,_⟩ |⟨_,_,hk⟩
   ·rcases(q3 g k hk).1 with hx |hx
    ·have:=t1.fr.size;exact .inl (by omega)
    ·obtain⟨i,_,hi⟩:=hpk g ((Qj g).1 hx)
     exact t1.new g i hi
   ·exact t1.new g i hk
  ·rcases ad5 g i hg with⟨k,hk,_⟩ |⟨_,_,hk⟩
   ·exact(q3 g k hk).2
   ·have:=t1.lt g i hk;have:=ad4.fr.size;omega
  ·obtain⟨z1,z2⟩:=t1.old g hg
   have Qi: ¬ow g:=λhx=>by obtain⟨i,_,hi⟩:=hpk g hx;rw[z1] at hi;cases hi
   have:nK g=none:=by
    cases hk:nK g with
    |none=>rfl
    |some k=>exact absurd (abx g (by have:=t1.fr.size;omega) k hk) Qi
   simp only[N',this,aq Qi,z1]
  ·by_cases hil:i<S1.length
   ·refine(t1.holds i).kept gy (λg hg hl=>?_) (λs hs=>?_)
    ·have Qi: ¬ow g:=λhx=>by have:=XD g hx i hg;omega
     refine⟨Rw g hl Qi,anw g i ?_ Qi hg⟩
     cases hk:nK g with
     |none=>rfl
     |some k=>exact absurd (abx g hl k hk) Qi
    ·by_cases ZG:s<S1.length
     ·exact⟨λ_ _ h=>h,rfl,_,t1.holds s,λg hg hl=>Rw g hl (λhx=>by have:=XD g hx s hg;omega)⟩
     ·have hd:S1.at s=.dead:=cd λhx=>ZG (qF hx)
      exact⟨λ_ _ h=>h,rfl,λ_=>False,by rw[hd];trivial,λ_ h=>h.elim⟩
   ·have hd:S1.at i=.dead:=cd λhx=>hil (qF hx)
    rw[hd]
    trivial
 refine⟨_,hR.anm (ow:=λg=>∃ k,nK g=some k) (aR _) (λ_ _ _=>rfl) hR.fr (λg ⟨k,hk⟩=>⟨(q3 g k hk).2,.inl ⟨S1.length+k,by omega,aeT g k hk⟩⟩) λd _ g1 g2=>?_⟩
 -- the results
 have ayN:NR=true->cR w' w' (Av nK B) (Av (uL N' o.dst λg=>∃ k,nK g=some k) Z):=λhfn=>⟨λ_ _ _=>rfl,λg _ hg=>by
  rcases g2 g hg with (⟨i,hi⟩ |hz) |hx
  ·rcases ad5 g i hi with⟨k,hk,_⟩ |⟨_,Qi,hk⟩
   ·exact .inl ⟨k,hk⟩
   ·exact .inr ⟨hfn,t3.Av.1 (.inl ⟨i,hk⟩),Qi⟩
  ·refine .inr ⟨hfn,.inr hz,λhx=>?_⟩
   obtain⟨i,_,hi⟩:=hpk g hx
   rw[(t1.old g hz).1] at hi
   cases hi
  ·exact .inl hx⟩
 have Ul:∀ (i:Nat) (b:TV),rt.res[i]?=some b->∃ u cs,vs[i]?=some u/\a7 b.t u cs/\M w' (Av (uL N' o.dst λg=>∃ k,nK g=some k) Z) H b.t b.m b.x cs (λg=>nK g=some i) []:=λi b hb=>by
  obtain⟨u,c,u1,u2,u3⟩:=q4 i b hb
  refine⟨u,c,u1,u2,?_⟩
  rcases aq5 with hs |hfn
  ·exact AZ _ (aO.1 hs b (dv hb)) u3
  ·exact ca (ayN hfn) _ (λ_ _ _=>rfl) (λ_ h _=>h) (λ_ h=>h) u3
 have aq6:∀ l:List TV,l=rt.res->Holds w' (Av (uL N' o.dst λg=>∃ k,nK g=some k) Z) H (gV (a.put o.dst v)) (S1.put o.dst (.PJ (l.map some))) (λg=>uL N' o.dst (λg=>∃ k,nK g=some k) g=some d) (.PJ (l.map some)) (.tuple vs.toArray):=λl hl=>by
  subst hl
  refine⟨vs,λg=>(nK g).getD 0,rfl,by simp[q2],λj b hj=>?_⟩
  rw[bR] at hj
  cases hb:rt.res[j]? with
  |none=>rw[hb] at hj;cases hj
  |some b'=>
   rw[hb] at hj
   simp only[aS,ah] at hj
   subst hj
   obtain⟨u,c,u1,u2,u3⟩:=Ul j b' hb
   exact⟨u,c,u1,u2,ca (cR.refl _ _) _ (λ_ _ _=>rfl) (λg hg _=>⟨g1 g ⟨j,hg⟩,by show(nK g).getD 0=j;rw[hg];rfl⟩) (λ_ h=>h) u3⟩
 subst q1
 match aby:rt.res,q2 with
 |[b],q2=>
  match vs,q2 with
  |[u],_=>
   obtain⟨u',c,u1,u2,u3⟩:=Ul 0 b (by rw[aby];rfl)
   simp only[aE,ah] at u1
   subst u1
   exact⟨c,u2,ca (cR.refl _ _) _ (λ_ _ _=>rfl) (λg hg _=>g1 g ⟨0,hg⟩) (λ_ h=>h) u3⟩
 |[],q2=>
  match vs,q2 with
  |[],_=>exact aq6 [] aby.symm
 |b::b'::r,q2=>
  match vs,q2 with
  |u::u'::vr,_=>exact aq6 (b::b'::r) aby.symm
end Go.Pv
namespace Go.Pv
open List Int IntKind
variable {P:Program} {w w':World} {A A' Wr:Nat->Prop} {H H':Nat->Value} {tm Nj:Nat->Value} {S S' S1:St} {σ eK lR:Nat->Option Nat} {w0:World} {W0 Z:Nat->Prop} {a:Act} {own:Nat->Prop} {v:Value} {Θ:nh} {dst:Option Nat} {O:vi} {hh:Hint} {Γ:Gl}
theorem Rx (cur:List Value) (off n:Nat) (h:off+n<=cur.length):putCells cur off ((cur.drop off).take n)=cur:=by
 have hl:((cur.drop off).take n).length=n:=by rw[aH,a8];omega
 apply de;intro k;rw[yJ _ _ _ _ (by omega),hl];by_cases h1:k<off
 ·rw[aA h1]
 rw[aq h1];by_cases h2:k<off+n
 ·rw[aA h2,bQ,aA (by omega),cG];congr 1;omega
 rw[aq h2]
theorem ald {ow:Nat->Prop} {Sg nK:Nat->Option Nat} (t1:dp eK w0 W0 Z H S1 a w) (hpk:∀ g,ow g->Pk eK S1.length g) (Qj:∀ g,Own Sg g↔ow g) (Ms:Fr w (Own Sg) w')
  (q3:∀ g i,nK g=some i->(w.heap.size<=g∨Own Sg g)/\g<w'.heap.size):
  ∃ N',dp N' w0 W0 Z H S1 a w'/\(∀ g k,nK g=some k->N' g=some (S1.length+k))/\cR w w' (Av eK Z) (Av N' Z)/\
   (∀ g i,i<S1.length->N' g=some i->eK g=some i)/\(∀ g i,i<S1.length->eK g=some i->w'.heap[g]?=w.heap[g]?)/\(∀ g i,N' g=some i->(∃ k,nK g=some k)∨(¬ow g/\eK g=some i)):=by
 let N':Nat->Option Nat:=λg=>match nK g with
  |some i=>some (S1.length+i)
  |none=>open Classical in if ow g then none else eK g
 have ad5:∀ g i,N' g=some i->(∃ k,nK g=some k/\i=S1.length+k)∨(nK g=none/\ ¬ow g/\eK g=some i):=λg i hg=>by
  simp only[N'] at hg
  split at hg
  ·rename_i k hk
   injection hg with hg
   exact .inl ⟨k,hk,hg.symm⟩
  ·rename_i hk
   split at hg
   ·cases hg
   ·exact .inr ⟨hk,by assumption,hg⟩
 have aeT:∀ g k,nK g=some k->N' g=some (S1.length+k):=λg k hk=>by simp only[N',hk]
 have anw:∀ g i,nK g=none->¬ow g->eK g=some i->N' g=some i:=λg i h1 h2 h3=>by simp only[N',h1,aq h2,h3]
 have Rw:∀ g,g<w.heap.size->¬ow g->w'.heap[g]?=w.heap[g]?:=λg hg hn=>Ms.block g hg (λhx=>hn ((Qj g).1 hx))
 have abx:∀ g,g<w.heap.size->∀ k,nK g=some k->ow g:=λg hg k hk=>by
  rcases(q3 g k hk).1 with hx |hx
  ·omega
  ·exact(Qj g).1 hx
 have gy:cR w w' (Av eK Z) (Av N' Z):=⟨λg hn hg=>Rw g hg (λhx=>hn (by obtain⟨i,_,hi⟩:=hpk g hx;exact .inl ⟨i,hi⟩)),λg hg hx=>by
  rcases hx with⟨i,hx⟩ |hx
  ·rcases ad5 g i hx with⟨k,hk,_⟩ |⟨_,_,hk⟩
   ·obtain⟨i,_,hi⟩:=hpk g (abx g hg k hk)
    exact .inl ⟨i,hi⟩
   ·exact .inl ⟨i,hk⟩
  ·exact .inr hx⟩
 have XD:∀ g,ow g->∀ i,eK g=some i->S1.length<=i:=λg hg i hi=>by
  obtain⟨j,hj,Mt⟩:=hpk g hg
  rw[hi] at Mt
  injection Mt with Mt
  omega
 refine⟨N',?_,aeT,gy,λg i hi hg=>?_,λg i hi hg=>Rw g (t1.lt g i hg) (λhx=>by have:=XD g hx i hg;omega),λg i hg=>by
  rcases ad5 g i hg with⟨k,hk,_⟩ |⟨_,h1,h2⟩
  ·exact .inl ⟨k,hk⟩
  ·exact .inr ⟨h1,h2⟩⟩
 rotate_left
 ·rcases ad5 g i hg with⟨k,_,hk⟩ |⟨_,_,hk⟩
  ·omega
  ·exact hk
 refine⟨t1.len,t1.defers,t1.fr.trans Ms (λg hg hl=>?_),λg i hg=>?_,λg i hg=>?_,λg hg=>⟨?_,(t1.old g hg).2⟩,λi=>?_⟩
 ·obtain⟨i,_,hi⟩:=hpk g ((Qj g).1 hg)
  rcases t1.new g i hi with hx |hx
  ·omega
  ·exact hx
 ·rcases ad5 g i hg with⟨k,hk,_⟩ |⟨_,_,hk⟩
  ·rcases(q3 g k hk).1 with hx |hx
   ·have:=t1.fr.size;exact .inl (by omega)
   ·obtain⟨i,_,hi⟩:=hpk g ((Qj g).1 hx)
    exact t1.new g i hi
  ·exact t1.new g i hk
 ·rcases ad5 g i hg with⟨k,hk,_⟩ |⟨_,_,hk⟩
  ·exact(q3 g k hk).2
  ·have:=t1.lt g i hk;have:=Ms.size;omega
 ·obtain⟨z1,z2⟩:=t1.old g hg
  have Qi: ¬ow g:=λhx=>by obtain⟨i,_,hi⟩:=hpk g hx;rw[z1] at hi;cases hi
  have:nK g=none:=by
   cases hk:nK g with
   |none=>rfl
   |some k=>exact absurd (abx g (by have:=t1.fr.size;omega) k hk) Qi
  simp only[N',this,aq Qi,z1]
 ·by_cases hil:i<S1.length
  ·refine(t1.holds i).kept gy (λg hg hl=>?_) (λs hs=>?_)
   ·have Qi: ¬ow g:=λhx=>by have:=XD g hx i hg;omega
    refine⟨Rw g hl Qi,anw g i ?_ Qi hg⟩
    cases hk:nK g with
    |none=>rfl
    |some k=>exact absurd (abx g hl k hk) Qi
   ·by_cases ZG:s<S1.length
    ·exact⟨λ_ _ h=>h,rfl,_,t1.holds s,λg hg hl=>Rw g hl (λhx=>by have:=XD g hx s hg;omega)⟩
    ·have hd:S1.at s=.dead:=cd λhx=>ZG (qF hx)
     exact⟨λ_ _ h=>h,rfl,λ_=>False,by rw[hd];trivial,λ_ h=>h.elim⟩
  ·have hd:S1.at i=.dead:=cd λhx=>hil (qF hx)
   rw[hd]
   trivial
theorem ale (h:dp σ w0 W0 Z H S a w) (ho:S.pT Θ T x=some av) (hl:D2 x av=some (s,p)) (e:S.pL x av=some (b,S1)) (hk:b.m.fu=false) (hm:a7 b.t (a.eval x) cs): (p=[]/\s<S.length/\a7 b.t (gV a s) cs)∨∃ r ex lB,p≠[]/\S1.at s=.v r (ex++[p])/\a7 r.t (gV a s) lB/\cD w p r.t lB=some cs/\valid p r.t r.x/\dP p r.t r.m r.x=some b/\∀ q∈ex,v8 q p=false:=by
 have hh:=eU h ho;cases av with
 |v a0 ex=>
  cases x with
  |tmp i=>simp only[D2,ah,aG] at hl;obtain⟨rfl,rfl⟩:=hl;exact .inl ⟨rfl,qF (by simp only[St.pT,ah] at ho;rw[ho];exact λe=>by cases e),hm⟩
  |const c=>simp[D2] at hl
  |func f=>simp[D2] at hl
  |global g=>simp[D2] at hl
 |al t s' p'=>
  simp only[D2,ah,aG] at hl;obtain⟨rfl,rfl⟩:=hl;obtain⟨r,lB,cs1,hr,hc,hm1⟩:=hh;simp only[St.pL] at e;split at e;case h_2=>cases e
  rename_i b' hb;cases uI:b'.m.fu with
  |true=>rw[uI] at e;simp only[ab,ah,aG] at e;obtain⟨rfl,rfl⟩:=e;rw[hk] at uI;cases uI
  |false=>
  rw[uI] at e;simp only[ae] at e;have hpr:=nk h hr hc hb;obtain⟨Qg,_⟩:=hpr;cases hp:p' with
  |nil=>
  subst hp;simp only[ah,aG] at e;obtain⟨rfl,rfl⟩:=e;simp only[cD,ah] at hc;subst hc;obtain⟨b2,g1,g2⟩:=hr.get;simp only[dP,ah] at g1;subst g1;have XB:r.t=b'.t:=by rw[Qg];exact g2
  refine .inl ⟨rfl,qF (by obtain⟨ex0,hs0,_⟩:=hr.at_;rw[hs0];exact λe=>by cases e),?_⟩;rw[Qg] at hm ⊢;obtain rfl:=oP hm hm1;have:=hr.mat;rw[XB,Qg] at this;exact this
  |cons stp pp=>rw[hp] at e;obtain⟨ex,b2,kY,ow0,j1,j2,j3,j4,hM,j5,j6,j7⟩:=u6 h hr;rw[j1] at e;simp only[ah,aG] at e;rw[←hp] at e;obtain⟨rfl,rfl⟩:=e;obtain⟨r3,ex3,q1,q2,q3⟩:=MN hb;rw[j1] at q1;injection q1 with q1 q1';subst q1 q1';rw[j3] at q3;injection q3 with q3;subst q3;rw[Qg] at hm;obtain rfl:=oP hm hm1;have hlen:((S.weaken s').cover s' p').length=S.length:=(by simp[St.weaken,St.cover]);have ZG:s'<S.length:=qF (by rw[j1];exact λe=>by cases e);have Xz:St.at (((S.weaken s').cover s' p').set s' (.v r (ex++[p']))) s'=.v r (ex++[p']):=(by rw[kN,aA ⟨rfl,by rw[hlen];exact ZG⟩]);exact .inr ⟨r,ex,lB,by simp,by rw[←hp];exact Xz,hr.mat,by rw[←hp];exact hc,by rw[←hp];exact hr.val,by rw[←hp];exact j3,by rw[←hp];exact q2⟩
 |_=>simp[D2] at hl
theorem Zb {Lv:Nat->Prop} (h:dp σ w0 W0 Z H S a w) (Lu:∀ g,Lv g->∃ i,S.length<=i/\σ g=some i) (nM:S.at s=.v r (ex++[p])) (Uo:a7 r.t (gV a s) lB) (hc:cD w p r.t lB=some cs) (AQ:valid p r.t r.x) (sB:dP p r.t r.m r.x=some b0) (C1:∀ q∈ex,v8 q p=false) (KT:v7 b p r.t r.m r.x=some (m,z)) (hM:M w (Av σ Z) H b.t b.m b.x cs Lv []):∃ lR,dp lR w0 W0 Z H (S.put (some s) (.v ⟨r.t,m,z⟩ ex)) a w/\(∀ g i,S.length<=i->¬Lv g->σ g=some i->lR g=some i)/\∀ g i,lR g=some i->Lv g∨σ g=some i:=by
 have hh:=h.holds s;rw[nM] at hh;obtain⟨aBc,hm0,hM0⟩:=hh;obtain rfl:=oP Uo hm0;have Uj:open_ p (ex++[p]):=by
  intro q hq s' r' e;rcases bd.1 hq with hq |hq
  ·exact Rq C1 q hq s' r' e
  rw[bu.1 hq] at e;have:=bB length e;simp at this
 obtain⟨kY,kF,c1,c2,c3,Ft⟩:=Xg p hM0 Uj AQ sB;rw[hc] at c1;injection c1 with c1;subst c1;have rS:b.t=b0.t:=PS p KT sB;obtain⟨ME,Ft⟩:=Ft b (m,z) rS KT;have hlen:cs.length=b.t.size:=(rK _ hM).1;let lR:Nat->Option Nat:=λg'=>open Classical in if Lv g' then some s else σ g'
 have af9:∀ g' i,lR g'=some i->(Lv g'/\i=s)∨(¬Lv g'/\σ g'=some i):=λg' i dU=>by
  simp only[lR] at dU;split at dU
  ·injection dU with dU;exact .inl ⟨by assumption,dU.symm⟩
  exact .inr ⟨by assumption,dU⟩
 have aeK:∀ g' i,¬Lv g'->σ g'=some i->lR g'=some i:=λg' i hn dU=>by simp only[lR,aq hn,dU]
 have ZG:s<S.length:=qF (by rw[nM];exact λe=>by cases e);have ave:∀ g',Av lR Z g'->Av σ Z g':=λg' dU=>by
  rcases dU with⟨i,dU⟩ |dU
  ·rcases af9 g' i dU with⟨hx,_⟩ |⟨_,hx⟩
   ·obtain⟨j,_,hj⟩:=Lu g' hx;exact .inl ⟨j,hj⟩
   exact .inl ⟨i,hx⟩
  exact .inr dU
 have Qi:∀ g i,i<S.length->σ g=some i->¬Lv g:=λg i hi hg hx=>by obtain⟨j,hj,Mt⟩:=Lu g hx;rw[hg] at Mt;injection Mt with Mt;omega
 have gy:cR w w (Av σ Z) (Av lR Z):=⟨λ_ _ _=>rfl,λg _ hg=>ave g hg⟩;have hl0:lB.length=r.t.size:=(rK _ hM0).1;have Ul:=Ft w (Av lR Z) cs Lv ex gy (by rw[hlen,rS]) (λg rJ MD _=>by
  unfold Gn
  split
  ·rename_i q hq
   split
   ·rename_i hgq
    obtain⟨_,_,cur,T,hw,hb,wS⟩:=ME q.1 q.2 hq
    subst hgq
    refine⟨cur,T,hw,?_⟩
    rw[wS,Rx _ _ _ (by simpa using hb)]
    simpa using hw
   ·rfl
  ·rfl) (ca gy _ (λ_ _ _=>rfl) (λg hg _=>hg) (λ_ hx=>by cases hx) hM) (λg rJ _ MD=>absurd rJ (Qi g s ZG MD)) (λq hq1 hq2=>by
  rcases bd.1 hq2 with hq2 |hq2
  ·exact hq2
  ·exact absurd (by rw[bu.1 hq2];simp) (hq1 []))
 have aDN:MB p r.t lB cs=lB:=by
  cases hp:cu p with
  |false=>exact DZ p hp
  |true=>have h1:=rL (w:=w) p hp sB hl0;rw[hc] at h1;injection h1 with h1;rw[Fs p hp sB hl0 (by rw[hlen,rS]),h1];exact Rx _ _ _ (by rw[hl0];exact q7 p hp sB)
 rw[aDN] at Ul;refine⟨lR,?_,λg i _ hn hg=>aeK g i hn hg,λg i hg=>(af9 g i hg).imp (·.1) (·.2)⟩;have:=h.put (dst:=some s) (av:=.v ⟨r.t,m,z⟩ ex) (v:=gV a s) gy h.fr (λg i hg=>?_) (λg hg=>?_) (λi g hi hd hg=>⟨rfl,aeK g i (Qi g i hi hg) hg⟩) (λd hd hdl _=>?_)
 ·rw[Iy] at this;exact this
 ·rcases af9 g i hg with⟨hx,_⟩ |⟨_,hx⟩
  ·obtain⟨j,_,hj⟩:=Lu g hx;exact⟨h.new g j hj,h.lt g j hj⟩
  exact⟨h.new g i hx,h.lt g i hx⟩
 ·have h0:=(h.old g hg).1;simp only[lR];split
  ·rename_i hx;obtain⟨j,_,hj⟩:=Lu g hx;rw[h0] at hj;cases hj
  exact h0
 injection hd with hd;subst hd;refine⟨lB,Uo,ca (cR.refl _ _) _ (λ_ _ _=>rfl) (λg hg _=>?_) (λ_ h=>h) Ul⟩;rcases hg with⟨k1,_⟩ |k1
 ·exact aeK g s (Qi g s ZG k1) k1
 simp only[lR,aA k1]
theorem ais {Lv:Nat->Prop} (h:dp σ w0 W0 Z H S a w) (Lu:∀ g,Lv g->∃ i,S.length<=i/\σ g=some i) (hs:s<S.length) (Uo:a7 b.t (gV a s) cs) (hM:M w (Av σ Z) H b.t b.m b.x cs Lv []):∃ lR,dp lR w0 W0 Z H (S.put (some s) (.v b [])) a w/\(∀ g i,S.length<=i->¬Lv g->σ g=some i->lR g=some i)/\∀ g i,lR g=some i->Lv g∨σ g=some i:=by
 refine⟨uL σ (some s) Lv,?_,λg i hi hn hg=>by
  unfold uL
  rw[aq hn]
  exact HF (λe=>by injection e with e;omega) hg,λg i hg=>by
  unfold uL at hg
  split at hg
  ·rename_i hx;exact .inl hx
  ·exact .inr (q9 hg).1⟩
 have:=h.af6 (dst:=some s) (v:=gV a s) (ow:=Lv) (A':=Av σ Z) (λ_ _=>rfl) h.fr (λg hg=>by
  obtain⟨i,hi,AY⟩:=Lu g hg
  exact⟨h.lt g i AY,.inl ⟨i,hi,AY⟩⟩) (λg _ hg=>by
  rcases hg with hg |hg
  ·exact hg
  ·obtain⟨i,hi,AY⟩:=Lu g hg
   exact .inl ⟨i,AY⟩) Uo hM
 rw[Iy] at this;exact this
theorem aq7 (h0:dp σ w0 W0 Z H S a w) (h:dp eK w0 W0 Z H S2 a w'):dp eK w0 W0 Z H (S.again S2 s) a w':=by
 have hl:S2.length=S.length:=by have:=h0.len;have:=h.len;omega
 have hlen:(S.again S2 s).length=S2.length:=by
  unfold St.again;split
  ·rw[iG];omega
  rfl
 have hv:∀ k r ex,S2.at k=.v r ex->(S.again S2 s).at k=.v r ex:=λk r ex he=>by
  rcases again_at (s:=s) hl k with hx |⟨_,_,_,_,_,_,hx,_⟩
  ·rw[hx,he]
  rw[he] at hx;cases hx
 refine⟨by rw[hlen];exact h.len,h.defers,h.fr,h.new,h.lt,h.old,λi=>?_⟩;rcases again_at (s:=s) hl i with hx |⟨t,r,ex,ha,hs,ht,hb,hx⟩
 ·rw[hx];exact(h.holds i).kept (cR.refl _ _) (λg hg _=>⟨rfl,hg⟩) (λk _=>⟨λr ex he=>hv k r ex he,rfl,_,h.holds k,λ_ _ _=>rfl⟩)
 rw[hx];have h1:=h0.holds i;rw[ha] at h1;obtain⟨r0,lB,cs,hr,hc,hm⟩:=h1;have h2:=h.holds s;rw[hs] at h2;obtain⟨cs2,hm2,hM2⟩:=h2;obtain⟨ex0,g1,g2⟩:=hr.at_;obtain⟨c,c1,c2⟩:=hr.get;have e0:r0.t=t:=by simp only[dP,ah] at c1;rw[←c1] at c2;exact c2
 have e1:lB=cs:=by simpa only[cD,ah] using hc
 have Uo:=hr.mat;rw[e0,ht] at Uo;have e2:=oP hm2 Uo;refine⟨r,cs2,cs2,⟨⟨ex,hv s r ex hs,λq _ s r e=>by cases q<;>simp at e⟩,trivial,⟨_,rfl,ht.symm⟩,hm2⟩,rfl,?_⟩;rw[e2,e1];exact hm
theorem avk (hT:ke P hh.tab=true) (hO:LD Γ P O w0 W0) (h:dp σ w0 W0 Z H S a w) {K:St->aa} (e:Oi hh O o f j as ts S K=some ret):air P f (as.map a.eval) w λv w'=>∃ S',K S'=some ret/\Rel w0 W0 Z H S' (a.put o.dst v) w':=by
 unfold Oi at e;split at e;case h_2=>cases e
 rename_i x T hx hT';split at e;case h_2=>cases e
 rename_i av pU;split at e;case h_2=>cases e
 rename_i s p b S1 hlp htk;cases anx:(!b.m.fu&&sX b.t b.m) with
 |false=>rw[anx] at e;cases e
 |true=>
  rw[anx] at e;simp only[ab] at e;simp only[ai,b8] at anx;obtain⟨hk,hlb⟩:=anx;split at e;case h_2=>cases e
  rename_i args aeS;obtain⟨NR,Uq⟩:∃ NR,NR=xS S1 as ((List.replicate as.length none).set j (some ⟨b.t,xD b.t b.m 0,b.x⟩)) args:=⟨_,rfl⟩;cases hls:(Oh b.t b.m||xS S1 as ((List.replicate as.length none).set j (some ⟨b.t,xD b.t b.m 0,b.x⟩)) args) with
 |false=>rw[hls] at e;cases e
 |true=>
  rw[hls] at e;simp only[ab] at e;rw[←Uq,bo] at hls;obtain⟨eK,cs,ow,t1,hm,hM,t3,t2⟩:=rX h pU htk;have ayO:=ale h pU hlp htk hk hm;have Np:j<as.length:=(bO.1 hx).1;obtain⟨r1,r2⟩:=D7 t1 as ts _ (by simp) aeS;let H':Nat->Value:=λn=>cs.getD n undef;have hH':∀ (j:Nat) (u:Value),cs[j]?=some u->H' (0+j)=u:=λj u hj=>(by simp only[H',aW,aF,hj,qx]);have hMt:=aq4 (H':=H') (n:=0) b.t hlb hM hH';let Sg:Nat->Option Nat:=λg=>open Classical in if ow g then some j else none
  have Sh:∀ g i,Sg g=some i↔ow g/\j=i:=λg i=>by
   simp only[Sg];split
   ·rename_i hx;exact⟨λhg=>⟨hx,by injection hg⟩,λhg=>by rw[hg.2]⟩
   rename_i hx;exact⟨λhg=>(by cases hg),λhg=>absurd hg.1 hx⟩
  have Qj:∀ g,Own Sg g↔ow g:=λg=>⟨λ⟨i,hi⟩=>((Sh g i).1 hi).1,λhg=>⟨j,(Sh g _).2 ⟨hg,rfl⟩⟩⟩;have hpk:∀ g,ow g->Pk eK S1.length g:=λg hg=>(by rw[t2];exact t3.now g hg);let B:Nat->Prop:=λg=>NR=true/\Av σ Z g/\ ¬ow g;have alc:cR w w (Av σ Z) (Av Sg B):=⟨λ_ _ _=>rfl,λg _ hg=>by
   rcases hg with hg |hg
   ·obtain⟨i,_,hi⟩:=t3.was g ((Qj g).1 hg)
    exact .inl ⟨i,hi⟩
   ·exact hg.2.1⟩
  have ayL:cR w w (Av eK Z) (Av Sg B):=⟨λ_ _ _=>rfl,λg hl hg=>t3.Av.2 (alc.wr g hl hg)⟩;have avj:NR=false->cR w w (Pk eK S1.length) (Av Sg B):=λhn=>⟨λ_ _ _=>rfl,λg _ hg=>by
   rcases hg with hg |hg
   ·exact hpk g ((Qj g).1 hg)
   ·have h1:=hg.1;rw[hn] at h1;cases h1⟩
  have r3:=λhf:NR=true=>IA t1 as ts _ (by simp) aeS (Uq.symm.trans hf)
  have mI:In Γ B H' w Sg args (as.map a.eval):=by
   refine⟨by simp[r1],λg i hg=>?_,λg hg=>⟨?_,?_⟩,λg o hg=>⟨?_,?_⟩,λk r uI=>?_⟩
   ·obtain⟨q1,q2⟩:=(Sh g i).1 hg;obtain⟨k,_,hk⟩:=t3.was g q1;exact⟨by omega,h.lt g k hk⟩
   ·cases hc:Sg g with
    |none=>rfl
    |some i=>exact absurd ((Sh g i).1 hc).1 hg.2.2
   ·rcases hg.2.1 with⟨i,hi⟩ |hz
    ·exact h.lt g i hi
    have:=(h.old g hz).2;have:=h.fr.size;omega
   ·cases hc:Sg g with
    |none=>rfl
    |some i=>
    obtain⟨k,_,hk⟩:=t3.was g ((Sh g i).1 hc).1;obtain⟨e1,e2⟩:=hO.env g o hg;rcases h.new g k hk with hx |hx
    ·have:=dz e2;omega
    exact absurd hx e1
   ·obtain⟨e1,e2⟩:=hO.env g o hg;rw[h.fr.block g (dz e2) e1,e2]
   rw[bR];rcases r2 k r uI with⟨b',hb',rfl⟩ |⟨x',N9,AI⟩
   ·rw[gw] at hb';split at hb'
    ·rename_i hjk;subst hjk;simp only[dO,aA Np,ah] at hb';subst hb';rw[hx];exact⟨_,rfl,cs,hm,ca alc _ (λ_ _ _=>rfl) (λg hg _=>(Sh g j).2 ⟨hg,rfl⟩) (λ_ h=>h) hMt⟩
    rw[lC] at hb';split at hb'<;>simp at hb'
   have fin:∀ {A0:Nat->Prop},cR w w A0 (Av Sg B)->Za w A0 H' r (a.eval x') (λ_=>False)->Za w (Av Sg B) H' r (a.eval x') (λg=>Sg g=some k):=λgy AI=>by
    cases r with
    |tv b=>obtain⟨c,c1,c2⟩:=AI;exact⟨c,c1,ca gy _ (λ_ _ _=>rfl) (λ_ hg _=>hg.elim) (λ_ h=>h) c2⟩
    |fn f' kE=>obtain⟨vs,c1,c2,c3⟩:=AI;exact⟨vs,c1,c2,λk c hk=>by obtain⟨u,u1,u2⟩:=c3 k c hk;exact⟨u,u1,fR gy _ u2⟩⟩
   cases hfn:NR with
   |false=>rw[N9];exact⟨_,rfl,fin (avj hfn) (AI H')⟩
   |true=>
   rcases r3 hfn k r uI with⟨b',hb',rfl⟩ |⟨x2,TL,ayM⟩
   ·rw[gw] at hb';split at hb'
    ·rename_i hjk;subst hjk;simp only[dO,aA Np,ah] at hb';subst hb';rw[hx];exact⟨_,rfl,cs,hm,ca alc _ (λ_ _ _=>rfl) (λg hg _=>(Sh g j).2 ⟨hg,rfl⟩) (λ_ h=>h) hMt⟩
    rw[lC] at hb';split at hb'<;>simp at hb'
   rw[N9] at TL;injection TL with TL;subst TL;rw[N9];exact⟨_,rfl,fin ayL (ayM H')⟩
  refine((hO.sd f).1 _ _ ret w Sg _ H' B e mI).mono λv w' hv=>?_;obtain⟨rt,XB,ad4⟩:=hv;split at XB;case h_2=>cases XB
  rename_i c hrefs;rw[←Uq] at XB;cases tZ:rt.res.all (λd=>J5 d.m&&(uK d.t d.m||NR)) with
 |false=>rw[tZ] at XB;cases XB
 |true=>
  rw[tZ] at XB
  simp only[ab] at XB
  split at XB
  case isFalse=>cases XB
  rename_i hct
  split at XB
  case isFalse=>cases XB
  rename_i hcm
  split at XB
  case h_2=>cases XB
  rename_i S2 hS2
  obtain⟨nK,vs,q1,q2,q3,q4,q5⟩:=ad4.res
  obtain⟨kY,hMc⟩:=q5 c hrefs
  obtain⟨N',hR,aeT,gy,anw,xm,axB⟩:=ald t1 hpk Qj ad4.fr q3
  -- what comes back
  obtain⟨ct,cm,cx⟩:=c
  simp only at hct hcm hMc hS2
  subst hct
  subst hcm
  have ayI:cR w w' (Av σ Z) (Av N' Z):=⟨λg hn hl=>gy.same g (λhx=>hn (t3.Av.1 hx)) hl,λg hl hg=>t3.Av.1 (gy.wr g hl hg)⟩
  have ayN:Oh b.t b.m=true∨cR w' w' (Av nK B) (Av N' Z):=hls.imp id λhfn=>⟨λ_ _ _=>rfl,λg _ hg=>by
   rcases hg with⟨i,hi⟩ |hz
   ·rcases axB g i hi with⟨k,hk⟩ |⟨Qi,hk⟩
    ·exact .inl ⟨k,hk⟩
    ·exact .inr ⟨hfn,t3.Av.1 (.inl ⟨i,hk⟩),Qi⟩
   ·refine .inr ⟨hfn,.inr hz,λhx=>?_⟩
    obtain⟨i,_,hi⟩:=hpk g hx
    rw[(t1.old g hz).1] at hi
    cases hi⟩
  have hMb:=Up (B:=Av nK B) (A':=Av N' Z) ayI b.t hlb ayN hM hH' hMc
  have Lu:∀ g,nK g=some rt.res.length->∃ i,S1.length<=i/\N' g=some i:=λg hg=>⟨_,by omega,aeT g _ hg⟩
  have hR2:∃ lR,dp lR w0 W0 Z H S2 a w'/\(∀ g i,S1.length<=i->¬nK g=some rt.res.length->N' g=some i->lR g=some i)/\∀ g i,lR g=some i->nK g=some rt.res.length∨N' g=some i:=by
   rcases ayO with⟨rfl,aqC,hmt⟩ |⟨r,ex,lB,hp,nM,hmt,C1,AQ,sB,aq8⟩
   ·simp only[St.MG,ah] at hS2
    subst hS2
    exact ais (b:=⟨b.t,b.m,_⟩) hR Lu (by rw[t2];exact aqC) hmt hMb
   ·cases p with
    |nil=>exact absurd rfl hp
    |cons stp pp=>
    simp only[St.MG,nM] at hS2
    split at hS2
    case h_2=>cases hS2
    rename_i m z KT
    simp only[ah,List.dropLast_concat] at hS2
    subst hS2
    have hh0:=t1.holds s
    rw[nM] at hh0
    obtain⟨aBc,hm0,hM0⟩:=hh0
    obtain rfl:=oP hmt hm0
    have Uj:open_ (stp::pp) (ex++[stp::pp]):=by
     intro q hq s' r' e
     rcases bd.1 hq with hq |hq
     ·exact Rq aq8 q hq s' r' e
     ·rw[bu.1 hq] at e
      have:=bB length e
      simp at this
    have ZG:s<S1.length:=qF (by rw[nM];exact λe=>by cases e)
    have avh:=(rR gy (stp::pp) none hM0 (λg hg _=>xm g s ZG hg) Uj AQ).1
    exact Zb (b:=⟨b.t,b.m,_⟩) hR Lu nM hmt (avh.trans C1) AQ sB aq8 KT hMb
  refine⟨_,XB,?_⟩
  obtain⟨σ3,hR3,hR4,hR5⟩:=hR2
  replace hR3:=aq7 (s:=s) h hR3
  revert hR3
  generalize St.again S S2 s=S2
  intro hR3
  have aEE:S2.length=S1.length:=by have:=hR3.len;have:=t1.len;omega
  obtain⟨n,hn⟩:∃ n,n=rt.res.length:=⟨_,rfl⟩
  have aDO:∀ g k,k<n->nK g=some k->σ3 g=some (S1.length+k):=λg k hk hg=>hR4 g _ (by omega) (λe=>by rw[hg] at e;injection e with e;omega) (aeT g k hg)
  refine⟨_,hR3.anm (ow:=λg=>∃ k,k<n/\nK g=some k) (aR _) (λ_ _ _=>rfl) hR3.fr (λg ⟨k,hk1,hk⟩=>⟨(q3 g k hk).2,.inl ⟨S1.length+k,by omega,aDO g k hk1 hk⟩⟩) λd _ g1 g2=>?_⟩
  have aBn:NR=true->cR w' w' (Av nK B) (Av (uL σ3 o.dst λg=>∃ k,k<n/\nK g=some k) Z):=λhfn=>⟨λ_ _ _=>rfl,λg _ hg=>by
   rcases g2 g hg with (⟨i,hi⟩ |hz) |⟨k,_,hk⟩
   ·rcases hR5 g i hi with hk |hi
    ·exact .inl ⟨_,hk⟩
    ·rcases axB g i hi with⟨k,hk⟩ |⟨Qi,hk⟩
     ·exact .inl ⟨k,hk⟩
     ·exact .inr ⟨hfn,t3.Av.1 (.inl ⟨i,hk⟩),Qi⟩
   ·refine .inr ⟨hfn,.inr hz,λhx=>?_⟩
    obtain⟨i,_,hi⟩:=hpk g hx
    rw[(t1.old g hz).1] at hi
    cases hi
   ·exact .inl ⟨k,hk⟩⟩
  have Ul:∀ (i:Nat) (b:TV),rt.res[i]?=some b->∃ u cs,vs[i]?=some u/\a7 b.t u cs/\M w' (Av (uL σ3 o.dst λg=>∃ k,k<n/\nK g=some k) Z) H b.t b.m b.x cs (λg=>i<n/\nK g=some i) []:=λi b hb=>by
   obtain⟨u,c,u1,u2,u3⟩:=q4 i b hb
   have hil:i<n:=by rw[hn];exact(bO.1 hb).1
   have hsb:=aO.1 tZ b (dv hb)
   simp only[ai,bo] at hsb
   refine⟨u,c,u1,u2,?_⟩
   rcases hsb.2 with hs |hfn
   ·exact ca (cR.refl _ _) _ (λ_ _ _=>rfl) (λg hg _=>⟨hil,hg⟩) (λ_ h=>h) (Gt _ hsb.1 (AZ _ hs u3))
   ·exact ca (aBn hfn) _ (λ_ _ _=>rfl) (λg hg _=>⟨hil,hg⟩) (λ_ h=>h) (Gt _ hsb.1 u3)
  have aq6:∀ l:List TV,l=rt.res->Holds w' (Av (uL σ3 o.dst λg=>∃ k,k<n/\nK g=some k) Z) H (gV (a.put o.dst v)) (S2.put o.dst (.PJ (l.map some))) (λg=>uL σ3 o.dst (λg=>∃ k,k<n/\nK g=some k) g=some d) (.PJ (l.map some)) (.tuple vs.toArray):=λl hl=>by
   subst hl
   refine⟨vs,λg=>(nK g).getD 0,rfl,by simp[q2],λj b hj=>?_⟩
   rw[bR] at hj
   cases hb:rt.res[j]? with
   |none=>rw[hb] at hj;cases hj
   |some b'=>
    rw[hb] at hj
    simp only[aS,ah] at hj
    subst hj
    obtain⟨u,c,u1,u2,u3⟩:=Ul j b' hb
    exact⟨u,c,u1,u2,ca (cR.refl _ _) _ (λ_ _ _=>rfl) (λg hg _=>⟨g1 g ⟨j,hg⟩,by show(nK g).getD 0=j;rw[hg.2];rfl⟩) (λ_ h=>h) u3⟩
  subst q1
  match aby:rt.res,q2 with
 |[b],q2=>
  match vs,q2 with
  |[u],_=>
   obtain⟨u',c,u1,u2,u3⟩:=Ul 0 b (by rw[aby];rfl)
   simp only[aE,ah] at u1
   subst u1
   exact⟨c,u2,ca (cR.refl _ _) _ (λ_ _ _=>rfl) (λg hg _=>g1 g ⟨0,hg⟩) (λ_ h=>h) u3⟩
 |[],q2=>
  match vs,q2 with
  |[],_=>exact aq6 [] aby.symm
 |b::b'::r,q2=>
  match vs,q2 with
  |u::u'::vr,_=>exact aq6 (b::b'::r) aby.symm
end Go.Pv
namespace Go.Pv
open List Int IntKind
variable {P:Program} {w w':World} {A A' Wr:Nat->Prop} {H:Nat->Value} {tm Nj:Nat->Value} {S S' S1:St} {σ eK lR:Nat->Option Nat} {w0:World} {W0 Z:Nat->Prop} {a:Act} {own:Nat->Prop} {v:Value} {Θ:nh} {dst:Option Nat}
theorem dp.drop (h:dp σ w0 W0 Z H S a w) (ow:Nat->Prop) (N8:∀ g,ow g->∀ i,σ g=some i->S.length<=i): ∃ lR,dp lR w0 W0 Z H S a w/\(∀ g,Av lR Z g->Av σ Z g/\ ¬ow g∨Z g):=by
 let lR:Nat->Option Nat:=λg=>open Classical in if ow g then none else σ g
 have h2:∀ g i,lR g=some i->¬ow g/\σ g=some i:=λg i hg=>by
  simp only[lR] at hg;split at hg
  ·cases hg
  exact⟨by assumption,hg⟩
 have h3:∀ g i,¬ow g->σ g=some i->lR g=some i:=λg i hn hg=>by simp only[lR,aq hn,hg]
 have gy:cR w w (Av σ Z) (Av lR Z):=⟨λ_ _ _=>rfl,λg _ hg=>by
  rcases hg with⟨i,hi⟩ |hz
  ·exact .inl ⟨i,(h2 g i hi).2⟩
  ·exact .inr hz⟩
 refine⟨lR,⟨h.len,h.defers,h.fr,λg i hg=>h.new g i (h2 g i hg).2,λg i hg=>h.lt g i (h2 g i hg).2,λg hg=>⟨?_,(h.old g hg).2⟩,λi=>?_⟩,λg hg=>?_⟩
 ·simp only[lR];split
  ·rfl
  exact(h.old g hg).1
 ·by_cases hil:i<S.length
  ·refine(h.holds i).kept gy (λg hg _=>⟨rfl,h3 g i (λhx=>?_) hg⟩) (λs hs=>⟨λ_ _ h=>h,rfl,_,h.holds s,λ_ _ _=>rfl⟩);have:=N8 g hx i hg;omega
  have hd:S.at i=.dead:=cd λhx=>hil (qF hx);rw[hd];trivial
 rcases hg with⟨i,hi⟩ |hz
 ·exact .inl ⟨.inl ⟨i,(h2 g i hi).2⟩,(h2 g i hi).1⟩
 exact .inr hz
theorem J':∀ (p:Path) {t:Ty} {m:Md} {x:t.I} {b:TV},ahQ p=true->dP p t m x=some b->valid p t x
 |[],_,_,_,_,_,_=>trivial
 | .idx _::_,_,_,_,_,h,_=>by simp[ahQ] at h
 | .deref::p,t,m,x,b,h,e=>by cases t<;>simp only[dP] at e<;>first |cases e |exact J' p h e
 | .fst::p,t,m,x,b,h,e=>by cases t<;>simp only[dP] at e<;>first |cases e |exact J' p h e
 | .snd::p,t,m,x,b,h,e=>by cases t<;>simp only[dP] at e<;>first |cases e |exact J' p h e
theorem dp.freeze (h:dp σ w0 W0 Z H S a w) (nM:S.at d=.v r []):Rel w0 W0 Z H (S.put (some d) (.v (kTV r) [])) a w:=by
 have hh:=h.holds d;rw[nM] at hh;obtain⟨cs,hm,hM⟩:=hh;have h0:∀ g,σ g=some d->¬Av (release σ (some d)) Z g:=λg hg hx=>by
  rcases hx with⟨i,hi⟩ |hz
  ·obtain⟨h1,h2⟩:=q9 hi;rw[hg] at h1;exact h2 h1
  rw[(h.old g hz).1] at hg;cases hg
 have gy:cR w w (Av σ Z) (Av (release σ (some d)) Z):=⟨λ_ _ _=>rfl,λg _ hg=>R8 hg⟩;refine⟨release σ (some d),?_⟩;have:=h.put (dst:=some d) (av:=.v (kTV r) []) (v:=gV a d) gy h.fr (λg i hg=>⟨h.new g i (q9 hg).1,h.lt g i (q9 hg).1⟩) (λg hg=>by
  unfold release
  split
  ·rfl
  ·exact(h.old g hg).1) (λi g _ hd hg=>⟨rfl,HF hd hg⟩) (λd' hd' _ _=>by
  injection hd' with hd'
  subst hd'
  refine⟨cs,hm,KO (t:=r.t) rfl (M_K (λg _ hx=>R8 hx) r.t rfl h0 hM)⟩)
 rw[Iy] at this;exact this
theorem apb (h:Rel w0 W0 Z H S a w) (e:am' S d=some (true,S')):Rel w0 W0 Z H S' a w:=by
 obtain⟨σ,h⟩:=h;unfold am' at e;split at e;case h_2=>cases e
 rename_i t s st pp nM;split at e;case h_2=>cases e
 rename_i r ex hs;split at e;case h_2=>cases e
 rename_i b sB;cases hk:b.m.fu with
 |true=>rw[hk] at e;cases e
 |false=>
 rw[hk] at e;simp only[ae,ah,aG] at e;obtain⟨C1,rfl⟩:=e;have hal:=h.holds d;rw[nM] at hal;obtain⟨eK,cs2,ow,t1,hm,hM,hk1,hn⟩:=Oz (vv:=gV a d) h (by simp) hal hs sB hk (λq hq=>by simpa using aO.1 C1 q hq);have:=t1.af6 (dst:=some d) (v:=gV a d) (ow:=ow) (A':=Av eK Z) (λ_ _=>rfl) t1.fr (λg hg=>by
  obtain⟨i,hi,AY⟩:=hk1.now g hg
  exact⟨t1.lt g i AY,.inl ⟨i,by omega,AY⟩⟩) (λg _ hg=>by
  rcases hg with hg |hg
  ·exact hg
  ·obtain⟨i,hi,AY⟩:=hk1.now g hg
   exact .inl ⟨i,AY⟩) hm hM
 rw[Iy] at this;exact⟨_,this⟩
theorem abz (h:Rel w0 W0 Z H S a w) (q:Nat×Path):Rel w0 W0 Z H (S.auX q) a w:=by
 obtain⟨σ,h⟩:=h;obtain⟨s,p⟩:=q;unfold St.auX;simp only;split;case h_2=>exact⟨σ,h⟩
 rename_i r nM;split;case h_2=>exact⟨σ,h⟩
 rename_i b sB;cases hc:(b.m.fu|| !ahQ p) with
 |true=>exact⟨σ,h⟩
 |false=>
 simp only[ae];simp only[Bool.or_eq_false_iff,Bool.not_eq_false'] at hc;obtain⟨hk,hni⟩:=hc;split
 ·exact h.freeze nM
 rename_i hp;split;case h_2=>exact⟨σ,h⟩
 rename_i m z KT;have hh:=h.holds s;rw[nM] at hh;obtain⟨lB,Uo,hM0⟩:=hh;have AQ:=J' p hni sB;have Uj:open_ p []:=λ_ hq=>by cases hq
 obtain⟨cs,kF,k1,k2,k3⟩:=focus p hM0 Uj AQ sB
 have hal:∃ t vv,Holds w (Av σ Z) H (gV a) S (λ_=>False) (.al t s p) vv/\t=b.t/\a7 t vv cs:=by
  obtain⟨vv,hvv⟩:∃ vv,a7 b.t vv cs:=by
   unfold a7;cases hg:isAgg b.t with
   |true=>exact⟨_,by rw[aA rfl]⟩
   |false=>have hl:=(rK _ k3).1;have h1:=aeH hg;rw[h1] at hl;obtain⟨u,rfl⟩:=List.length_eq_one_iff.1 hl;exact⟨u,by simp⟩
  exact⟨b.t,vv,⟨r,lB,cs,⟨⟨[],nM,Uj⟩,AQ,⟨b,sB,rfl⟩,Uo⟩,k1,hvv⟩,rfl,hvv⟩
 obtain⟨t,vv,hal,rfl,hvv⟩:=hal;obtain⟨eK,cs2,ow,t1,hm,hM,hk1,hn⟩:=Oz (vv:=vv) h hp hal nM sB hk (λ_ hq=>by cases hq);obtain rfl:=oP hvv hm;obtain⟨lR,d1,d2⟩:=t1.drop ow (λg hg i hi=>by
  obtain⟨j,hj,Mt⟩:=hk1.now g hg
  rw[hi] at Mt
  injection Mt with Mt
  omega)
 have hK:K w (Av lR Z) b.t b.x cs:=M_K (λg _ hx=>by
  rcases d2 g hx with hx |hx
  ·exact hx.1
  ·exact .inr hx) b.t rfl (λg hg hx=>by
  rcases d2 g hx with hx |hx
  ·exact hx.2 hg
  ·obtain⟨j,_,hj⟩:=hk1.now g hg
   rw[(t1.old g hx).1] at hj;cases hj) hM
 have aDP:St.at (((S.weaken s).cover s p).set s (.v r [p])) s=.v r ([]++[p]):=by rw[kN,aA ⟨rfl,by simp only[St.weaken,St.cover,bh];exact qF (by rw[nM];exact λe=>by cases e)⟩];rfl
 obtain⟨σ3,h3,_⟩:=Zb (b:=kTV b) (Lv:=λ_=>False) (ex:=[]) d1 (λ_ h=>h.elim) aDP Uo k1 AQ sB (λ_ hq=>by cases hq) KT (KO (t:=b.t) rfl hK);exact⟨σ3,h3⟩
theorem ait:∀ (l:List (Nat×List (Nat×Path))) {id:Nat},Rel w0 W0 Z H S a w->Rel w0 W0 Z H (akH l id S) a w
 |[],_,h=>h
 |q::r,id,h=>by
  unfold akH;cases Nat.beq q.1 id with
  |true=>
   simp only[ab];generalize q.2=l;induction l generalizing S with
   |nil=>exact h
   |cons x l ih=>exact ih (abz h x)
  |false=>exact ait r h
end Go.Pv
