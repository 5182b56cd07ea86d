/- A verified evaluator of the program's form over pure values, part 3: what it tells of a function holds. -/
import Derived.Test.YtpcoilhcgcpjmaaGreatDoorPv2
import Derived.Carry
import Derived.Deep.AppendSrc
import Derived.Deep.Upon
import Derived.MapKept
import Derived.WideKeyPair
set_option linter.unusedSimpArgs false
set_option linter.unusedVariables false
noncomputable section
namespace Go.Pv
open List Int IntKind
abbrev je:= @Array.size_append
abbrev nG:= @Array.toList_append
abbrev lE:= @List.getElem?_replicate
abbrev cI:= @List.getElem_append_left
abbrev dx:= @List.getElem_append_right
abbrev qm:= @List.getElem_map
abbrev aK:= @List.getElem_mem
abbrev dz:= @List.length_replicate
abbrev iL:= @List.map_append
abbrev qW:= @List.map_nil
abbrev n7:= @List.map_set
abbrev fJ:= @List.mem_of_mem_take
abbrev fK:= @List.mem_or_eq_of_mem_set
abbrev lV:= @Go.MapKept.run_getObj_map
abbrev vI:= @Nat.le_trans
abbrev mG:= @Nat.mod_eq_of_lt
abbrev pj:= @Nat.mul_le_mul_left
abbrev na:= @Option.map_eq_some_iff
abbrev an:= @decide_eq_false
abbrev vJ:= @Go.grownCap_ge
abbrev n9:= @Go.grownCap_le_maxLen
abbrev rO:= @Go.run_firstCells_some
abbrev qw:= @Go.run_storeCells_cells
end Go.Pv
namespace Go.Pv
open List Int IntKind
variable {P:Program} {w w':World} {A A' Wr:Nat->Prop} {H:Nat->Value} {tm N':Nat->Value} {S S' S1:St} {σ eo lU:Nat->Option Nat} {w0:World} {W0 Z:Nat->Prop} {a:Act} {own:Nat->Prop} {v:Value} {Θ:kR} {dst:Option Nat}
theorem ahE {s:Nat} (rX:List (List Value)) (h:∀ c∈rX,c.length=s) (j:Nat) (hj:j<rX.length):(rX.flatten.drop (j*s)).take s=rX[j]:=by
 have h1:(rX.take j).flatten.length=j*s:=by rw[E9 s (λc hc=>h c (fJ hc)),aH,kQ (by omega)]
 rw[Nv rX j hj,←h1,df,←h (rX[j]) (aK hj),dP]
theorem aw7 {t:Ty} {m:Md} {xs:List t.I} {rX:List (List Value)} {ow:Nat->Prop} {τ:Nat->Nat} (e:TypeId) (hl:rX.length=xs.length) (hM:∀ (j:Nat) (hj:j<xs.length),M w A H t m xs[j] (rX[j]'(by omega)) (λg=>ow g/\τ g=j) []) (gC:∀ g,ow g->g<w.heap.size) (aAP:xs.length<=maxLen): M (w.alloc (.cells rX.flatten.toArray e)) (λg=>A g∨w.heap.size<=g) H (.sl t) (.o e none m) xs [.slice (some ⟨w.heap.size,0,none⟩) xs.length xs.length] (λg=>ow g∨g=w.heap.size) []:=by
 have tR:∀ c∈rX,c.length=t.size:=λc hc=>by obtain⟨j,hj,rfl⟩:=bo.1 hc;exact(rB t (hM j (by omega))).1
 simp only[M];refine .inr (.inr ⟨e,none,m,some ⟨w.heap.size,0,none⟩,xs.length,rfl,rfl,aM _,λh hh=>(by cases hh),.inr ⟨w.heap.size,rX.flatten.toArray,τ,rfl,.inr rfl,gW w _,?_,aAP,λj hj=>?_⟩⟩)
 ·rw[cd,E9 t.size tR,hl]
 rw[b5,ahE rX tR j (by omega)];refine b8 (w:=w) ⟨λg _ hg=>heap_alloc_old w _ g hg,λg hg hx=>?_⟩ t (λg hg hl=>heap_alloc_old w _ g hl) (λg hg hl=>⟨.inl hg.1,by omega,hg.2⟩) (λ_ h=>by simp at h) (hM j hj);rcases hx with hx |hx
 ·exact hx
 omega
theorem aeg (zl:List Value):∀ n,madeCells zl.toArray (n*zl.length)=(List.replicate n zl).flatten.toArray:=by
 intro n;unfold madeCells;apply hY.1;simp only[ng,Array.toList_range,b5];induction n with
 |zero=>simp
 |succ n ih=>
 rw[bc,cH,List.range_add,iL,ih,rK,List.flatten_append];congr 1;simp only[nZ,gv,List.flatten_nil,b6];apply cU;intro k;by_cases hk:k<zl.length
 ·simp[hk,tW,mG hk]
 simp[hk]
theorem Zj {t:Ty} {m:Md}:∀ {l:List TV} {xs:List t.I},Pl t m l=some xs->xs.length=l.length/\∀ (k:Nat) (hk:k<xs.length),l[k]?=some ⟨t,m,xs[k]⟩
 |[],xs,h=>by simp only[Pl,ah] at h;subst h;exact⟨rfl,λk hk=>by simp at hk⟩
 |b::r,xs,h=>by
  simp only[Pl] at h;split at h
  ·rename_i ht;split at h
   ·rename_i hm;split at h
    ·rename_i l hl;injection h with h;subst h;obtain⟨h1,h2⟩:=Zj hl;obtain⟨bt,bm,bx⟩:=b;simp only at ht hm;subst ht hm;refine⟨by simp[h1],λk hk=>?_⟩;cases k with
     |zero=>rfl
     |succ k=>simpa using h2 k (by simpa using hk)
    cases h
   cases h
  cases h
theorem adw (hT:kh P Θ=true) (h:cY σ w0 W0 Z H S a w) {hn:Hn} {o:Oper} {T:TypeId} {n:Nat} {ps:Array (Nat×Operand)} (ho:o.op=.buildSlice T n ps) (e:fb Θ hn S o.dst T n ps.toList=some (true,S')):Vn P w0 W0 Z H S' a o.dst w (execOp a.eval o):=by
 unfold fb at e;split at e;case h_2=>cases e
 rename_i T0 t te fs0 hi;cases hc:(EM n ps.toList&&Nat.ble n 1800) with
 |false=>rw[hc] at e;cases e
 |true=>
  rw[hc] at e
  simp only[ab] at e
  simp only[ai] at hc
  obtain⟨hpl,ax9⟩:=hc
  have ax9:=bJ ax9
  split at e
  case h_2=>cases e
  rename_i l S1 hl
  obtain⟨eo,ow,τ,rX,h1,hnn,hk,Da,hll,hj,D0⟩:=Nw hT ps.toList _ 0 h hl
  rw[dz] at hll
  obtain⟨_,hu,hT0⟩:=kV hT hi
  simp only at hT0
  subst hT0
  obtain⟨u1,u2,u3⟩:=F9 hu rfl
  simp only at u1 u2
  obtain⟨i2,Ba,ht2⟩:=ph u2
  obtain⟨⟨sm,inf,z,k1,k2,_,_,_,k3,k4⟩,_,hte⟩:=kV hT Ba
  rw[hte] at k1
  rw[ht2] at k2 k4 sm
  have gC:∀ g,ow g->g<w.heap.size:=λg hg=>by
   obtain⟨i,_,hi⟩:=hk.was g hg
   exact h.lt g i hi
  -- all parts are of the type
  have tR:(∃ m xs m',Pl t m l=some xs/\(m'=.o te none m∨(m'=.k/\m.eY=true))/\S'=S1.put o.dst (.v ⟨.sl t,m',xs⟩ [])):=by
   split at e
   ·simp only[ah,aF,cl] at e
    cases hf:hn.an9 o.dst with
    |true=>exact⟨.k,[],_,rfl,.inr ⟨by rw[hf];rfl,rfl⟩,e.symm⟩
    |false=>exact⟨_,[],_,rfl,.inl (by rw[hf];rfl),e.symm⟩
   ·split at e
    ·rename_i xs hxs
     simp only[ah,aF,cl] at e
     refine⟨_,xs,_,hxs,?_,e.symm⟩
     generalize hf:(hn.an9 o.dst&&_)=q
     cases q with
     |true=>
      simp only[ai] at hf
      exact .inr ⟨rfl,hf.2⟩
     |false=>exact .inl rfl
    ·cases e
  obtain⟨m,xs,m',hxs,hm',rfl⟩:=tR
  obtain⟨x1,x2⟩:=Zj hxs
  have rH:∀ (k:Nat) (b:TV),l[k]?=some b->b.t=t:=λk b hb=>by
   have hkl:k<xs.length:=by rw[x1];exact(bL.1 hb).1
   rw[x2 k hkl] at hb
   injection hb with hb
   rw[←hb]
  have hzl:(l.map λb=>zc b.t)=List.replicate n (zc t):=by
   apply cU
   intro k
   rw[bO,lE]
   by_cases hkl:k<l.length
   ·rw[ay (by omega),aN hkl,aP,rH k _ (aN hkl)]
   ·rw[ar (by omega),cv (by omega)]
    rfl
  have aqi:=abd (a:=a) (ps:=ps.toList) (l:=l) (rX:=rX) (place:=λk=>some (k*t.size,t.size)) Da (by rw[hll];exact hpl) (λk b cs hb xb=>by
    obtain⟨kS,c1,c2,_⟩:=D0 k b hb
    rw[c1] at xb
    injection xb with xb
    subst xb
    exact rB _ c2) (λk b hb=>by
    obtain⟨kS,c1,_,c3⟩:=D0 k b hb
    simp only[aW] at c3
    exact⟨kS,c1,c3⟩) (λk hk=>by
    rw[rH k _ (aN hk),hzl]
    congr 2
    unfold LI
    rw[List.take_replicate,kQ (by omega),List.map_replicate,List.sum_replicate_nat,Il])
  have hz1:z.cells=(zc t).toArray:=zu k4 (λu hu=>?_)
  rotate_left
  ·-- one cell each
   have:∀ (t:Ty),∀ u∈zc t,u.oneCell'=true:=by
    intro t
    induction t with
    |pair a b iha ihb=>intro u hu;simp only[zc,a8] at hu;rcases hu with hu |hu;exact iha u hu;exact ihb u hu
    |arr n t ih=>intro u hu;simp only[zc,xK] at hu;obtain⟨c,hc,hu⟩:=hu;rw[List.eq_of_mem_replicate hc] at hu;exact ih u hu
    |unit=>intro u hu;simp[zc] at hu
    |_=>intro u hu;simp only[zc,bj] at hu;subst hu;rfl
   exact this t u hu
  have hlc:rX.length=xs.length:=by omega
  have ahF:=aw7 (w:=w) (A:=Av σ Z) (H:=H) (t:=t) (m:=m) (xs:=xs) (rX:=rX) (ow:=ow) (τ:=τ) te hlc (λj hj=>by
    have Oe:=x2 j hj
    obtain⟨kS,c1,c2,_⟩:=D0 j _ Oe
    rw[aN (by omega)] at c1
    injection c1 with c1
    rw[c1]
    simpa using c2) gC (by simp only[maxLen];omega)
  have iu:(Instr.buildSlice T0 n (ps.map λ(j,x)=>(j,a.eval x))).run P w=.ok (.slice (some ⟨w.heap.size,0,none⟩) n n) (w.alloc (.cells rX.flatten.toArray te)):=by
   have rz: ¬n*t.size>2^24:=by
    have:=Nat.mul_le_mul ax9 sm
    omega
   have aqj:Instr.fill (λi=>some (i*t.size,t.size)) ((Array.range (n*t.size)).map (z.cells[· %z.cells.size]!)) (ps.map λx=>(x.1,a.eval x.2)).toList=some rX.flatten.toArray:=by
    have:=aeg (zc t) n
    unfold madeCells at this
    rw[hz1,ng]
    rw[Il] at this
    rw[this,←hzl]
    exact aqi
   have hso:(sizeOf te).run P w=.ok t.size w:=by
    simp[sizeOf,typeInfo,k1,k2]
   have hzv:(zeroValue te).run P w=.ok z w:=by
    simp[zeroValue,typeInfo,k1,k3]
   by_cases h0:n*t.size=0
   ·have ax':Instr.fill (λi=>some (i*t.size,t.size)) ((Array.range (n*t.size)).map ((#[]:Array Value)[· %(#[]:Array Value).size]!)) (ps.map λx=>(x.1,a.eval x.2)).toList=some rX.flatten.toArray:=by
     rw[←aqj,h0]
     simp[Array.range_zero']
    unfold Instr.buildSlice
    simp only[aZ,a7 u1,aV,hso,rz,cT]
    rw[ay h0]
    simp only[aZ,cW,aV,ax']
    simp[newRow]
   ·unfold Instr.buildSlice
    simp only[aZ,a7 u1,aV,hso,rz,cT]
    rw[ar h0]
    simp only[aZ,cW,hzv,aV,aqj]
    simp[newRow]
  have hex:(execOp a.eval o).run P w=.ok (.value (.slice (some ⟨w.heap.size,0,none⟩) n n)) (w.alloc (.cells rX.flatten.toArray te)):=by
   simp only[execOp,ho,aZ,iu,aV]
   rfl
  have aDb:∀ g,Av eo Z g->g<w.heap.size:=λg hg=>by
   rcases hg with⟨i,hi⟩ |hz
   ·exact h1.lt g i hi
   ·have:=(h1.old g hz).2;have:=h1.fr.size;omega
  rcases hm' with rfl |⟨rfl,hmk⟩
  ·refine⟨w.alloc (.cells rX.flatten.toArray te),.slice (some ⟨w.heap.size,0,none⟩) n n,hex,λg hg=>heap_alloc_old w _ g hg,_,h1.afv (b:=⟨.sl t,.o te none m,xs⟩) (cs:=[.slice (some ⟨w.heap.size,0,none⟩) n n]) (λg hg=>heap_alloc_old w _ g hg) (h1.fr.alloc _) (λg hg=>?_) (λg hg hx=>?_) (by simp[a6,isAgg]) (by
    have:xs.length=n:=by omega
    rw[this] at ahF
    exact ahF)⟩
   ·rcases hg with hg |rfl
    ·obtain⟨i,hi,dH⟩:=hk.now g hg
     have:=gC g hg
     exact⟨by simp only[World.alloc,gf];omega,.inl ⟨i,by omega,dH⟩⟩
    ·exact⟨by simp only[World.alloc,gf];omega,.inr (aM _)⟩
   ·rcases hx with hx |hx |rfl
    ·exact .inl (hk.Av.1 hx)
    ·obtain⟨i,_,hi⟩:=hk.was g hx
     exact .inl (.inl ⟨i,hi⟩)
    ·exact .inr (aM _)
  ·refine⟨w.alloc (.cells rX.flatten.toArray te),.slice (some ⟨w.heap.size,0,none⟩) n n,hex,λg hg=>heap_alloc_old w _ g hg,_,h1.afv (b:=⟨.sl t,.k,xs⟩) (cs:=[.slice (some ⟨w.heap.size,0,none⟩) n n]) (ow:=λ_=>False) (A':=Av eo Z) (λg hg=>heap_alloc_old w _ g hg) (h1.fr.alloc _) (λg hg=>hg.elim) (λg hg hx=>hx.resolve_right id) (by simp[a6,isAgg]) (KU (t:=.sl t) rfl ?_)⟩
   have hxn:xs.length=n:=by omega
   show K _ _ (.sl t) xs _
   have auV:∀ c∈rX,c.length=t.size:=λc hc=>by
    obtain⟨j,hj,rfl⟩:=List.getElem_of_mem hc
    obtain⟨kS,c1,c2,_⟩:=D0 j _ (x2 j (by omega))
    rw[aN hj] at c1
    injection c1 with c1
    rw[c1]
    exact(rB _ c2).1
   have XZ:rX.flatten.length=n*t.size:=by rw[E9 t.size auV,hlc,hxn]
   simp only[K]
   refine⟨some ⟨w.heap.size,0,none⟩,n,by rw[hxn],by omega,λ_=>⟨w.heap.size,0,rX.flatten.toArray,te,(0,0),rfl,λhx=>absurd (aDb _ hx) (zt _),gW w _,by simp only[cd,XZ,hxn];omega,λj hj'=>?_⟩⟩
   obtain⟨kS,c1,c2,_⟩:=D0 j _ (x2 j hj')
   rw[aN (by omega)] at c1
   injection c1 with c1
   have wu:=ahE rX auV j (by omega)
   simp only[aW]
   rw[wu,c1]
   refine fA ⟨λg _ hg=>heap_alloc_old w _ g hg,λg _ hg=>hk.Av.1 hg⟩ t (tD t hmk c2)
theorem afA (hT:kh P Θ=true) (h:cY σ w0 W0 Z H S a w) {o:Oper} {T:TypeId} {l c:Operand} (ho:o.op=.makeSlice T l c) (e:wq Θ S o.dst T l c=some (true,S')):Vn P w0 W0 Z H S' a o.dst w (execOp a.eval o):=by
 unfold wq at e;split at e;case h_2=>cases e
 rename_i T0 t te fs0 n n' hi hl hc;split at e;case h_2=>cases e
 rename_i z hz;split at e;case isFalse=>cases e
 rename_i hzt;simp only[ah,aF,ai,au] at e;obtain⟨⟨⟨rfl,h0⟩,h40⟩,rfl⟩:=e;obtain⟨kl,hl⟩:=zr h hl;obtain⟨kc,hc⟩:=zr h hc;obtain⟨_,hu,hT0⟩:=kV hT hi;simp only at hT0;subst hT0;obtain⟨u1,u2,u3⟩:=F9 hu rfl;simp only at u1;obtain⟨i,inf,zv,Ba,rH,hx,Tn,q1,q2,q3,q4,q5,q6⟩:=X4 hT hz;have hM0:M w (Av σ Z) H z.t z.m z.t.z (zc z.t) (λ_=>False) []:=abb z.t Tn;have hzc:zv.cells=(zc z.t).toArray:=zu q4 (rB _ hM0).2;have iu:=run_make (P:=P) w T0 te inf zv u1 q1 q3 kl kc n n h0 (Int.le_refl _) (by
  have h1:(inf.bytes:Int)<=256:=by omega
  calc (inf.bytes:Int)*n<=256*n:=Int.mul_le_mul_of_nonneg_right h1 h0
   _<=281474976710656:=by omega) (by omega)
 rw[q2,hzc,←Il,aeg] at iu;have ahF:=aw7 (w:=w) (A:=Av σ Z) (H:=H) (t:=t) (m:=z.m) (xs:=List.replicate n.toNat t.z) (rX:=List.replicate n.toNat (zc z.t)) (ow:=λ_=>False) (τ:=λ_=>0) te (by simp) (λj hj=>by
  subst hzt
  simp only[List.getElem_replicate]
  exact afw hM0) (λ_ h=>h.elim) (by simp only[dz,maxLen];omega)
 refine⟨w.alloc (.cells (List.replicate n.toNat (zc z.t)).flatten.toArray te),_,?_,λg hg=>heap_alloc_old w _ g hg,_,h.afv (b:=⟨.sl t,.o te none z.m,List.replicate n.toNat t.z⟩) (cs:=[.slice (some ⟨w.heap.size,0,none⟩) n.toNat n.toNat]) (w':=w.alloc (.cells (List.replicate n.toNat (zc z.t)).flatten.toArray te)) (v:=.slice (some ⟨w.heap.size,0,none⟩) n.toNat n.toNat) (λg hg=>heap_alloc_old w _ g hg) (h.fr.alloc _) (λg hg=>?_) (λg hg hx=>?_) (by simp[a6,isAgg]) (by
  rw[dz] at ahF
  exact ahF)⟩
 ·simp only[execOp,ho,hl,hc,aZ,iu,aV];rfl
 ·rcases hg with hg |rfl
  ·exact hg.elim
  exact⟨by simp only[World.alloc,gf];omega,.inr (aM _)⟩
 rcases hx with hx |hx |rfl
 ·exact .inl hx
 ·exact hx.elim
 exact .inr (aM _)
end Go.Pv
namespace Go.Pv
open List Int IntKind
variable {P:Program} {w w':World} {A A' Wr:Nat->Prop} {H:Nat->Value} {tm N':Nat->Value} {S S' S1:St} {σ eo lU:Nat->Option Nat} {w0:World} {W0 Z:Nat->Prop} {a:Act} {own:Nat->Prop} {v:Value} {Θ:kR} {dst:Option Nat}
theorem Vt {olds news:List Value} {s n j:Nat} (hl:olds.length=n*s) (hj:j<n):((olds++news).drop (j*s)).take s=(olds.drop (j*s)).take s:=by have h1:(j+1)*s<=n*s:=aC s hj;rw[bc,cH] at h1;rw[List.drop_append_of_le_length (by omega),List.take_append_of_le_length (by rw[aX];omega)]
theorem aeh {olds news:List Value} {s n j:Nat} (hl:olds.length=n*s):((olds++news).drop ((n+j)*s)).take s=(news.drop (j*s)).take s:=by rw[bc,←hl,List.drop_append,iK,List.drop_eq_nil_of_le (Nat.le_add_right _ _),bU]
theorem LJ {cur:List Value} {s n j:Nat} (hj:j<n):((cur.take (n*s)).drop (j*s)).take s=(cur.drop (j*s)).take s:=by have h1:(j+1)*s<=n*s:=aC s hj;rw[bc,cH] at h1;rw[iE,nk,kQ (by omega)]
theorem mJ {g o:Nat} {t:TypeId} {cur:Array Value} {vs:List Value} (hw:w.heap[g]?=some (.cells cur t (0,0))) (hb:o+vs.length<=cur.size) (h1:∀ u∈vs,u.oneCell'=true): w.setCells g o vs=w.setRow g (putCells cur.toList o vs).toArray:=by
 have e1:=run_storeCells_at (P:=(default:Program)) g o t vs 0 cur w hw (by omega) h1;have e2:=qw (P:=(default:Program)) g o vs 0 w (λj hj=>by
  have:o+j<cur.size:=by omega
  simp[World.cell?,hw,this]) (λj hj=>by simp[World.frozen?,hw]) h1
 rw[e1] at e2;simp only[dM,Result.ok.injEq,cl] at e2;exact e2.symm
theorem akt {T' e':TypeId} {size:Nat} {t:Ty} {ys:List t.I} {vy:Value} (hk:P.underlying T'=some (.slice e')) (hs:size=t.size) (h:∃ X c,vy=.slice X ys.length c/\(0<ys.length->∃ g off cur T fr,X=some ⟨g,off,none⟩/\w.heap[g]?=some (.cells cur T fr)/\off+ys.length*t.size<=cur.size/\∀ u∈(cur.toList.drop off).take (ys.length*t.size),u.oneCell'=true)): ∃ news,Src P size T' vy ys.length news w/\(∀ g off cur T fr X c,vy=.slice X ys.length c->X=some ⟨g,off,none⟩->w.heap[g]?=some (.cells cur T fr)->0<ys.length->news=(cur.toList.drop off).take (ys.length*t.size)):=by
 subst hs;obtain⟨X,c,rfl,h⟩:=h;rcases vj ys.length with h0 |h0
 ·refine⟨[],?_,λ_ _ _ _ _ _ _ _ _ _ hp=>by omega⟩;rw[h0];cases X with
  |none=>exact Src.ofNil w hk c
  |some ad=>exact Src.ofSlice w hk ad 0 c [] (by simp) (λj u hu=>by simp at hu) (λu hu=>by simp at hu)
 obtain⟨g,off,cur,T,fr,rfl,hw,hb,h1⟩:=h h0;refine⟨(cur.toList.drop off).take (ys.length*t.size),Src.ofSlice w hk ⟨g,off,none⟩ ys.length c _ (by have hc:cur.toList.length=cur.size:=bQ;rw[aH,aX];omega) (λj u hu=>?_) h1,?_⟩
 ·have hj:j<ys.length*t.size:=(by have:=(bL.1 hu).1;rw[aH] at this;omega);rw[bM,ay hj,cr] at hu;rw[A6];simp only[World.cell?,hw];rw[←bI];exact hu
 intro g' aD8 aku T' fr' X' c' e1 e2 hw' _;injection e1 with e1;subst e2;injection e1 with e1;injection e1 with e1 Vm;subst e1 Vm;rw[hw] at hw';injection hw' with hw';injection hw' with hw';rw[hw']
def join (SD:Nat->Prop) (n:Nat) (τN τ:Nat->Nat) (g:Nat):Nat:=open Classical in if SD g then n+τN g else τ g
theorem amF {SD:Nat->Prop} {n:Nat} {τN τ:Nat->Nat} {g:Nat} (h:SD g):join SD n τN τ g=n+τN g:=ay h
theorem ahG {SD:Nat->Prop} {n:Nat} {τN τ:Nat->Nat} {g:Nat} (h: ¬SD g):join SD n τN τ g=τ g:=ar h
theorem Vu (hT:kh P Θ=true) {T T' e ty:TypeId} {t:Ty} {tag:Option Nat} {me:Md} {xs ys:List t.I} {vx vy:Value} {owx SD:Nat->Prop} {τN:Nat->Nat} {news:List Value} {inf:TypeInfo} {z:Value}
  (hu:P.underlying T=some (.slice e)) (hi:P.info? e=some inf) (hz:inf.zero=some z) (rz:inf.size=t.size) (hby:inf.bytes<=32*t.size) (hzs:z.cells.size=t.size) (X6:0<t.size)
  (hx:M w A H (.sl t) (.o e tag me) xs [vx] owx []) (PD:Src P t.size T' vy ys.length news w)
  (hN:∀ (k:Nat) (hk:k<ys.length),M w A H t me ys[k] ((news.drop (k*t.size)).take t.size) (λg=>SD g/\τN g=k) [])
  (aqk:∀ g,owx g->¬SD g) (hxA:∀ g,owx g->A g) (hlx:∀ g,owx g->g<w.heap.size) (hlN:∀ g,SD g->g<w.heap.size) (afB:(xs.length+ys.length)*t.size<=4398046511104):
  ∃ v' w' kH,(Builtin.append_ #[T,T'] ty #[vx,vy]).run P w=.ok v' w'/\M w' (λg=>A g∨w.heap.size<=g) H (.sl t) (.o e none me) (xs++ys) [v'] kH []/\
   (∀ g,g<w.heap.size->¬owx g->w'.heap[g]?=w.heap[g]?)/\(∀ g,kH g->g<w'.heap.size/\(owx g∨SD g∨w.heap.size<=g))/\w.heap.size<=w'.heap.size/\w'.os=w.os/\w'.tape=w.tape/\w'.output=w.output:=by
 have aql:xs.length+ys.length<=4398046511104:=vI (Nat.le_mul_of_pos_right _ X6) afB
 have aqm:(xs.length+ys.length)*inf.bytes<=140737488355328:=by
  have:(xs.length+ys.length)*inf.bytes<=(xs.length+ys.length)*(32*t.size):=pj _ hby
  have e2:(xs.length+ys.length)*(32*t.size)=32*((xs.length+ys.length)*t.size):=by rw[Nat.mul_left_comm]
  omega
 have amG:Src P inf.size T' vy ys.length news w:=by rw[rz];exact PD
 have auR:=PD.one
 have hnl:=PD.newsLen
 -- the grown row
 have grown:∀ (base:Option Addr) (c:Nat) (olds:List Value) (owo:Nat->Prop) (τ:Nat->Nat),vx=.slice base xs.length c->c<xs.length+ys.length->olds.length=xs.length*t.size->
   (Builtin.firstCells inf.size xs.length vx).run P w.drew=.ok olds.toArray w.drew->(∀ g,owo g->owx g)->
   (∀ (k:Nat) (hk:k<xs.length),M w A H t me xs[k] ((olds.drop (k*t.size)).take t.size) (λg=>owo g/\τ g=k) [])->
   ∃ v' w' kH,(Builtin.append_ #[T,T'] ty #[vx,vy]).run P w=.ok v' w'/\M w' (λg=>A g∨w.heap.size<=g) H (.sl t) (.o e none me) (xs++ys) [v'] kH []/\
   (∀ g,g<w.heap.size->¬owx g->w'.heap[g]?=w.heap[g]?)/\(∀ g,kH g->g<w'.heap.size/\(owx g∨SD g∨w.heap.size<=g))/\w.heap.size<=w'.heap.size/\w'.os=w.os/\w'.tape=w.tape/\w'.output=w.output:=by
  intro base c olds owo τ hv hc hol afC adr Rw
  subst hv
  have iu:=run_append_grow_src (P:=P) w T T' ty e inf z hu hi hz base xs.length c olds afC vy ys.length news amG hc (by omega) (by
   have h1:=nextslicecap_le hc
   have h2:=aC inf.bytes h1
   rw[Nat.mul_assoc] at h2
   omega)
  have hge:=vJ w (xs.length+ys.length) c e
  have hle:=n9 w (xs.length+ys.length) c e (by simp only[maxLen];omega)
  let pad:=Builtin.zeroCells z.cells (grownCap w (xs.length+ys.length) c e - (xs.length+ys.length))
  have rY:∀ g,g<w.heap.size->(w.drew.alloc (.cells ((olds++news).toArray++pad) e)).heap[g]?=w.heap[g]?:=λg hg=>heap_alloc_old w.drew _ g hg
  refine⟨_,w.drew.alloc (.cells ((olds++news).toArray++pad) e),λg=>owo g∨SD g∨g=w.heap.size,iu,?_,λg hg _=>rY g hg,λg hg=>?_,by simp,rfl,rfl,rfl⟩
  ·simp only[M]
   refine .inr (.inr ⟨e,none,me,some ⟨w.heap.size,0,none⟩,grownCap w (xs.length+ys.length) c e,rfl,by rw[ax],by rw[ax];exact hge,λh hh=>(by cases hh),.inr ⟨w.heap.size,(olds++news).toArray++pad,join SD xs.length τN τ,rfl,.inr (.inr rfl),gW w.drew _,?_,hle,λj hj=>?_⟩⟩)
   ·simp only[pad,je,cd,ax,size_zeroCells,hzs,hol,hnl,←bc]
    congr 1
    omega
   ·have fZ:cN w (w.drew.alloc (.cells ((olds++news).toArray++pad) e)) A (λg=>A g∨w.heap.size<=g):=⟨λg _ hg=>rY g hg,λg hg hx=>hx.resolve_right (by omega)⟩
    rw[nG,b5]
    rcases gD j xs.length with hjx |hjx
    ·rw[cI hjx,bu,Vt hol hjx]
     refine b8 fZ t (λg hg hl=>rY g hl) (λg hg hl=>⟨.inl hg.1,by omega,?_⟩) (λ_ h=>by simp at h) (Rw j hjx)
     rw[ahG (aqk g (adr g hg.1))]
     exact hg.2
    ·have hjy:j - xs.length<ys.length:=by rw[ax] at hj;omega
     rw[dx hjx]
     have e1:=aeh (olds:=olds) (news:=news++pad.toList) (s:=t.size) (n:=xs.length) (j:=j - xs.length) hol
     rw[show xs.length+(j - xs.length)=j from by omega,←bu,Vt hnl hjy] at e1
     rw[e1]
     refine b8 fZ t (λg hg hl=>rY g hl) (λg hg hl=>⟨.inr (.inl hg.1),by omega,?_⟩) (λ_ h=>by simp at h) (hN (j - xs.length) hjy)
     rw[amF hg.1,hg.2]
     omega
  ·have:(w.drew.alloc (.cells ((olds++news).toArray++pad) e)).heap.size=w.heap.size+1:=by simp
   rcases hg with hg |hg |rfl
   ·exact⟨by have:=hlx g (adr g hg);omega,.inl (adr g hg)⟩
   ·exact⟨by have:=hlN g hg;omega,.inr (.inl hg)⟩
   ·exact⟨by omega,.inr (.inr (aM _))⟩
 -- nothing to append
 have nothing:∀ (base:Option Addr) (c:Nat),vx=.slice base xs.length c->xs.length<=c->ys.length=0->
   ∃ v' w' kH,(Builtin.append_ #[T,T'] ty #[vx,vy]).run P w=.ok v' w'/\M w' (λg=>A g∨w.heap.size<=g) H (.sl t) (.o e none me) (xs++ys) [v'] kH []/\
   (∀ g,g<w.heap.size->¬owx g->w'.heap[g]?=w.heap[g]?)/\(∀ g,kH g->g<w'.heap.size/\(owx g∨SD g∨w.heap.size<=g))/\w.heap.size<=w'.heap.size/\w'.os=w.os/\w'.tape=w.tape/\w'.output=w.output:=by
  intro base c hv hle h0
  have hys:ys=[]:=dQ h0
  subst hys
  have hn0:news=[]:=dQ (by simpa using hnl)
  rw[hn0] at amG
  rw[hv] at hx ⊢
  have iu:=run_append_nothing (P:=P) w T T' ty e inf hu hi base xs.length c hle vy amG
  refine⟨_,w,owx,iu,?_,λ_ _ _=>rfl,λg hg=>⟨hlx g hg,.inl hg⟩,aM _,rfl,rfl,rfl⟩
  rw[b6]
  have Pf:M w A H (.sl t) (.o e none me) xs [.slice base xs.length c] owx []:=by
   simp only[M] at hx ⊢
   rcases hx with⟨hn,_⟩ |⟨hk,_⟩ |⟨T1,aDc,me1,X,c1,e1,e2,h1,h2,h3⟩
   ·simp at hn
   ·simp[Md.eY] at hk
   ·injection e1 with e1 Vm LK
    subst e1 Vm LK
    exact .inr (.inr ⟨e,none,me,X,c1,rfl,e2,h1,λh hh=>(by cases hh),h3⟩)
  exact b8 (w:=w) ⟨λ_ _ _=>rfl,λg hg hx=>hx.resolve_right (by omega)⟩ (.sl t) (λ_ _ _=>rfl) (λg hg _=>hg) (λ_ h=>h) Pf
 have hx0:=hx
 simp only[M] at hx
 rcases hx with⟨hn,_⟩ |⟨hk,_⟩ |⟨T1,aDc,me1,X,c,e1,e2,hle,aov,hx⟩
 ·simp at hn
 ·simp[Md.eY] at hk
 ·injection e1 with e1 Vm LK
  subst e1 Vm LK
  simp only[dW,iJ] at e2
  rcases vj ys.length with h0 |h0
  ·exact nothing X c e2 hle h0
  ·rcases hx with⟨hxs,hc⟩ |⟨g,cur,τ,rfl,N9,hw,xb,hcm,Rw⟩
   ·subst hxs hc
    refine grown X 0 [] (λ_=>False) (λ_=>0) e2 (by simpa using h0) (by simp) ?_ (λ_ h=>h.elim) (λk hk=>by simp at hk)
    rw[e2]
    cases X with
    |none=>exact run_firstCells_none w.drew _ _ _ _
    |some ad=>exact rO w.drew _ _ ad _ _ [] (by simp) (λj u hu=>by simp at hu)
   ·have hbx:xs.length*t.size<=cur.toList.length:=by
     have h1:cur.toList.length=cur.size:=bQ
     have h2:=aC t.size hle
     omega
    have Da:cur.toList.length=cur.size:=bQ
    by_cases PE:xs.length+ys.length<=c
    ·-- room
     have Tn:xs.length*t.size+news.length<=cur.size:=by
      rw[hnl,xb,←bc]
      exact aC _ PE
     have iu:=run_append_room_src (P:=P) w T T' ty e inf hu hi g 0 xs.length c vy ys.length news amG PE (λj hj=>by
      have:xs.length*inf.size+j<cur.size:=by rw[rz];omega
      simp[World.cell?,hw,this]) (λj hj=>by simp[World.frozen?,hw])
     rw[aW,rz,mJ hw Tn auR] at iu
     have rY:∀ k,k≠g->(w.setRow g (putCells cur.toList (xs.length*t.size) news).toArray).heap[k]?=w.heap[k]?:=λk hk=>kX w g k _ hk
     refine⟨_,w.setRow g (putCells cur.toList (xs.length*t.size) news).toArray,λk=>owx k∨SD k,by rw[e2];exact iu,?_,λk _ hk=>rY k (λe'=>hk (by rw[e'];exact N9)),λk hk=>?_,by rw[jQ];exact aM _,rfl,rfl,rfl⟩
     ·simp only[M]
      refine .inr (.inr ⟨e,none,me,some ⟨g,0,none⟩,c,rfl,by rw[ax],by rw[ax];exact PE,λh hh=>(by cases hh),.inr ⟨g,(putCells cur.toList (xs.length*t.size) news).toArray,join SD xs.length τN τ,rfl,.inl N9,ik w g cur _ e (0,0) hw,?_,hcm,λj hj=>?_⟩⟩)
      ·rw[cd,yT _ _ _ (by omega),Da,xb]
      ·have fZ:cN w (w.setRow g (putCells cur.toList (xs.length*t.size) news).toArray) A (λg=>A g∨w.heap.size<=g):=⟨λk hk _=>rY k (λe'=>hk (by rw[e'];exact hxA g N9)),λk hk hx=>hx.resolve_right (by omega)⟩
       rw[b5]
       have htl:(cur.toList.take (xs.length*t.size)).length=xs.length*t.size:=by rw[aH];omega
       have aow:putCells cur.toList (xs.length*t.size) news=cur.toList.take (xs.length*t.size)++(news++cur.toList.drop (xs.length*t.size+news.length)):=by unfold putCells;rw[bu]
       rcases gD j xs.length with hjx |hjx
       ·have wu:((putCells cur.toList (xs.length*t.size) news).drop (j*t.size)).take t.size=(cur.toList.drop (j*t.size)).take t.size:=by rw[aow,Vt htl hjx,LJ hjx]
        rw[cI hjx,wu]
        refine b8 fZ t (λk hk hl=>rY k hk.2.1) (λk hk hl=>⟨.inl hk.1,hk.2.1,?_⟩) (λ_ h=>h) (Rw j hjx)
        rw[ahG (aqk k hk.1)]
        exact hk.2.2
       ·have hjy:j - xs.length<ys.length:=by rw[ax] at hj;omega
        rw[dx hjx]
        have e1:=aeh (olds:=cur.toList.take (xs.length*t.size)) (news:=news++cur.toList.drop (xs.length*t.size+news.length)) (s:=t.size) (n:=xs.length) (j:=j - xs.length) htl
        rw[show xs.length+(j - xs.length)=j from by omega,Vt hnl hjy] at e1
        rw[←aow] at e1
        rw[e1]
        have hgN:∀ k,SD k->k≠g:=λk hk e'=>aqk g N9 (by rw[←e'];exact hk)
        refine b8 fZ t (λk hk hl=>rY k (hgN k hk.1)) (λk hk hl=>⟨.inr hk.1,hgN k hk.1,?_⟩) (λ_ h=>by simp at h) (hN (j - xs.length) hjy)
        rw[amF hk.1,hk.2]
        omega
     ·rw[jQ]
      rcases hk with hk |hk
      ·exact⟨hlx k hk,.inl hk⟩
      ·exact⟨hlN k hk,.inr (.inl hk)⟩
    ·refine grown (some ⟨g,0,none⟩) c (cur.toList.take (xs.length*t.size)) (λk=>owx k/\k≠g) τ e2 (by omega) (by rw[aH];omega) ?_ (λk hk=>hk.1) (λk hk=>?_)
     ·rw[e2,rz]
      refine rO w.drew _ _ ⟨g,0,none⟩ _ _ _ (by rw[aH];omega) (λj u hu=>?_)
      rw[A6]
      have hj:j<xs.length*t.size:=by
       have:=(bL.1 hu).1
       rw[aH] at this
       omega
      rw[bM,ay hj] at hu
      have hw':w.drew.heap[g]?=some (.cells cur e (0,0)):=hw
      simp only[World.cell?,hw',aW]
      rw[←bI]
      exact hu
     ·rw[LJ hk]
      exact b8 (cN.refl _ _) t (λ_ _ _=>rfl) (λg' dH _=>⟨⟨dH.1,dH.2.1⟩,dH.2.2⟩) (λ_ h=>h) (Rw k hk)
end Go.Pv
namespace Go.Pv
open List Int IntKind
variable {P:Program} {w w':World} {A A' Wr:Nat->Prop} {H:Nat->Value} {tm N':Nat->Value} {S S' S1:St} {σ eo lU:Nat->Option Nat} {w0:World} {W0 Z:Nat->Prop} {a:Act} {own:Nat->Prop} {v:Value} {Θ:kR} {dst:Option Nat}
def KS (w:World) (A:Nat->Prop) (t:Ty) (xs:List t.I) (cs:List Value):Prop:=∃ X c,cs=[.slice X xs.length c]/\xs.length<=c/\(0<xs.length->∃ g off cur T fr,X=some ⟨g,off,none⟩/\w.heap[g]?=some (.cells cur T fr)/\off+xs.length*t.size<=cur.size/\∀ j (h:j<xs.length),K w A t xs[j] ((cur.toList.drop (off+j*t.size)).take t.size))
theorem aya {t:Ty} {m:Md} {xs:List t.I} {cs:List Value} {ow:Nat->Prop} (hk:m.inn.eY=true) (h:M w A H (.sl t) m xs cs ow []):KS w A t xs cs:=by
 simp only[M] at h;rcases h with⟨hn,_⟩ |⟨_,h⟩ |⟨T,tag,me,X,c,rfl,rfl,hc,ht,h⟩
 ·simp at hn
 ·simp only[K] at h;obtain⟨X,c,rfl,hc,h⟩:=h;refine⟨X,c,rfl,hc,λhp=>?_⟩;obtain⟨g,off,cur,T,fr,h1,_,h2,h3,h4⟩:=h hp;exact⟨g,off,cur,T,fr,h1,h2,h3,h4⟩
 refine⟨X,c,rfl,hc,λhp=>?_⟩;rcases h with⟨rfl,_⟩ |⟨g,cur,τ,rfl,N9,hw,rz,hm,h⟩
 ·simp at hp
 refine⟨g,0,cur,T,(0,0),rfl,hw,?_,λj hj=>?_⟩
 ·have:=aC t.size hc;omega
 rw[aW];exact tD t hk (h j hj)
theorem ayb {t:Ty} {xs:List t.I} {X:Option Addr} {c lo hi:Nat} (h:KS w A t xs [.slice X xs.length c]) (h1:lo<=hi) (h2:hi<=xs.length):
  KS w A t ((xs.take hi).drop lo) [.slice (if c=lo then X else X.map (·.add (lo*t.size))) (hi - lo) (c - lo)]:=by
 obtain⟨X',c',e,hc,h⟩:=h
 simp only[dW,fc,iJ,cl] at e
 obtain⟨rfl,rfl⟩:=e
 have hl:((xs.take hi).drop lo).length=hi - lo:=by rw[aX,aH];omega
 refine⟨_,_,by rw[hl],by omega,λhp=>?_⟩
 rw[hl] at hp
 obtain⟨g,off,cur,T,fr,rfl,hw,ho,hj⟩:=h (by omega)
 have e1:(lo+(hi - lo))*t.size<=xs.length*t.size:=aC _ (by omega)
 rw[bc] at e1
 refine⟨g,off+lo*t.size,cur,T,fr,?_,hw,by rw[hl];omega,λj hj1=>?_⟩
 rotate_left
 ·have M8:j<hi - lo:=by rw[←hl];exact hj1
  have:=hj (lo+j) (by omega)
  rw[show((xs.take hi).drop lo)[j]=xs[lo+j]'(by omega) from by simp]
  rw[show off+lo*t.size+j*t.size=off+(lo+j)*t.size from by rw[bc];omega]
  exact this
 ·rw[ar (by omega)]
  simp only[aP,A6]
theorem ahH (h:cY σ w0 W0 Z H S a w) {av:AV} {t:Ty} {m:Md} {ys:List t.I} (hh:Holds w (Av σ Z) H (gM a) S own av v) (e:S.QV av=some ⟨.sl t,m,ys⟩) (hk:m.inn.eY=true): KS w (Av σ Z) t ys [v]:=by
 cases av with
 |v a ex=>
  cases ex with
  |cons _ _=>simp[St.QV] at e
  |nil=>
  simp only[St.QV,ah] at e;subst e;obtain⟨cs,h1,h2⟩:=hh;have:cs=[v]:=by simpa[a6,isAgg] using h1
  subst this;exact aya hk h2
 |al t1 s p=>
 simp only[St.QV] at e;obtain⟨r,kI,cs,hr,hc,hm⟩:=hh;obtain⟨rfl,kH,k2,k3⟩:=np h hr hc e;have:cs=[v]:=by simpa[a6,isAgg] using hm
 subst this;exact aya hk k3
 |cut t1 s p lo hi=>
  simp only[St.QV] at e;obtain⟨r,kI,t',X,n,c,hr,rfl,hc,hlo,hhi,rfl⟩:=hh;cases hp:S.place s p with
  |none=>rw[hp] at e;cases e
  |some b'=>obtain⟨ht,kH,k2,k3⟩:=np h hr hc hp;obtain⟨bt,bm,bx⟩:=b';simp only at ht;subst ht;rw[hp] at e;simp only[ah] at e;injection e with e1 e2 e3;injection e1 with e1;subst e1 e2;simp only[heq_eq_eq] at e3;subst e3;have hK:=aya hk k3;have hn:n=length bx:=(by obtain⟨_,_,e,_⟩:=hK;simp only[dW,fc,iJ] at e;exact e.2.1);subst hn;exact ayb hK hlo hhi
 |_=>simp[St.QV] at e
theorem LL {s:Nat} {Q:Value->Prop} {l:List Value}:∀ (n:Nat),(∀ j,j<n->∀ u∈(l.drop (j*s)).take s,Q u)->∀ u∈l.take (n*s),Q u
 |0,_,u,hu=>by simp at hu
 |n+1,h,u,hu=>by
  rw[bc,cH,List.take_add] at hu;rcases a8.1 hu with hu |hu
  ·exact LL n (λj hj=>h j (by omega)) u hu
  exact h n (by omega) u hu
theorem aqn {T' e':TypeId} {t:Ty} {ys:List t.I} {vy:Value} (hk:P.underlying T'=some (.slice e')) (h:KS w A t ys [vy]): ∃ news,Src P t.size T' vy ys.length news w/\∀ (k:Nat) (hk:k<ys.length),K w A t ys[k] ((news.drop (k*t.size)).take t.size):=by
 obtain⟨X,c,e,hc,h⟩:=h;simp only[dW,iJ] at e;obtain⟨news,h1,h2⟩:=akt (P:=P) (w:=w) (t:=t) (ys:=ys) (vy:=vy) hk rfl ⟨X,c,e,λhp=>by
  obtain⟨g,off,cur,T,fr,rfl,hw,hb,hj⟩:=h hp
  refine⟨g,off,cur,T,fr,rfl,hw,hb,LL _ λj hj1 u hu=>?_⟩
  rw[dO] at hu
  exact(Fa t (hj j hj1)).2 u hu⟩
 refine⟨news,h1,λk hk=>?_⟩;obtain⟨g,off,cur,T,fr,rfl,hw,hb,hj⟩:=h (by omega);rw[h2 g off cur T fr _ c e rfl hw (by omega),LJ hk,dO];exact hj k hk
theorem Tz (hT:kh P Θ=true) {T0:TypeId} {i:TI} (hi:Θ.find T0=some i) {t:Ty} (rH:i.ty=.sl t) {o:Oper} {x y:Operand} {T':TypeId} {tag:Option Nat} {me:Md} {xs ys:List t.I} {owx SD:Nat->Prop} {τN:Nat->Nat} {news:List Value} {n:Nat} (ho:o.op=.call { callee:=.builtin .append,args:=#[x,y],argTypes:=#[T0,T'] }) (h2:cY lU w0 W0 Z H S1 a w) (hS1:S1.length=n) (hA:A=Av lU Z) (hx:M w A H (.sl t) (.o i.e tag me) xs [a.eval x] owx []) (PD:Src P t.size T' (a.eval y) ys.length news w) (hN:∀ (k:Nat) (hk:k<ys.length),M w A H t me ys[k] ((news.drop (k*t.size)).take t.size) (λg=>SD g/\τN g=k) []) (aqk:∀ g,owx g->¬SD g) (Vr:∀ g,owx g∨SD g->∃ i,n<=i/\lU g=some i) (afB:(xs.length+ys.length)*t.size<=4398046511104): adv P w0 W0 Z H (S1.put o.dst (.v ⟨.sl t,.o i.e none me,xs++ys⟩ [])) a o.dst w (execOp a.eval o):=by
 subst hA hS1;obtain⟨_,hu,hT0⟩:=kV hT hi;obtain⟨u1,u2,u3⟩:=F9 hu rH;rw[hT0] at u1;obtain⟨i2,Ba,ht2⟩:=ph u2;obtain⟨⟨sm,inf,z,k1,k2,kb,_,_,k3,k4⟩,_,hte⟩:=kV hT Ba;rw[hte] at k1;rw[ht2] at k2 k4 kb;have gC:∀ g,owx g∨SD g->g<w.heap.size:=λg hg=>by obtain⟨i,_,hi⟩:=Vr g hg;exact h2.lt g i hi
 have hz1:z.cells.size=t.size:=by
  unfold a6 at k4;split at k4
  ·rw[k4,Value.cells,cd,Il]
  rename_i hag;have hl:=Il t;rw[k4] at hl;have hv:∀ (t:Ty),∀ u∈zc t,u.oneCell'=true:=by
   intro t;induction t with
   |pair a b iha ihb=>intro u hu;simp only[zc,a8] at hu;rcases hu with hu |hu;exact iha u hu;exact ihb u hu
   |arr n t ih=>intro u hu;simp only[zc,xK] at hu;obtain⟨c,hc,hu⟩:=hu;rw[List.eq_of_mem_replicate hc] at hu;exact ih u hu
   |unit=>intro u hu;simp[zc] at hu
   |_=>intro u hu;simp only[zc,bj] at hu;subst hu;rfl
  have h1:=hv t z (by rw[k4];simp);have:z.cells=#[z]:=(by cases z<;>first |rfl |simp[Value.oneCell'] at h1);rw[this];simpa using hl
 obtain⟨v',w',kH,r1,r2,r3,r4,r5,r6,r7,r8⟩:=Vu (ty:=o.type) hT u1 k1 k3 k2 kb hz1 u3 hx PD hN aqk (λg hg=>by
  obtain⟨i,_,hi⟩:=Vr g (.inl hg)
  exact .inl ⟨i,hi⟩) (λg hg=>gC g (.inl hg)) (λg hg=>gC g (.inr hg)) afB
 refine⟨w',v',.inl ?_,_,h2.aw3 (b:=⟨.sl t,.o i.e none me,xs++ys⟩) (cs:=[v']) (ow:=kH) (A':=λg=>Av lU Z g∨w.heap.size<=g) r5 (λg hg hn=>r3 g hg (λhx=>?_)) ?_ (λg hg=>?_) (λg hg hx=>?_) (by simp[a6,isAgg]) r2⟩
 ·simp[execOp,ho,resolve,invoke,builtin,r1]
 ·obtain⟨i,hi1,Ba⟩:=Vr g (.inl hx);exact hn i hi1 Ba
 ·refine⟨by rw[r6];exact h2.fr.os,by rw[r7];exact h2.fr.tape,by rw[r8];exact h2.fr.output,vI h2.fr.size r5,λg hg hn=>?_⟩;rw[r3 g (by have:=h2.fr.size;omega) (λhx=>?_)]
  ·exact h2.fr.block g hg hn
  obtain⟨i,_,hi⟩:=Vr g (.inl hx);rcases h2.new g i hi with h1 |h1
  ·omega
  exact hn h1
 ·obtain⟨q1,q2⟩:=r4 g hg;refine⟨q1,?_⟩;rcases q2 with q2 |q2 |q2
  ·exact .inl (Vr g (.inl q2))
  ·exact .inl (Vr g (.inr q2))
  exact .inr q2
 rcases hx with hx |hx
 ·exact .inl hx
 rcases(r4 g hx).2 with q2 |q2 |q2
 ·obtain⟨i,_,hi⟩:=Vr g (.inl q2);exact .inl (.inl ⟨i,hi⟩)
 ·obtain⟨i,_,hi⟩:=Vr g (.inr q2);exact .inl (.inl ⟨i,hi⟩)
 exact .inr q2
theorem aoy (hT:kh P Θ=true) (h:cY σ w0 W0 Z H S a w) {o:Oper} {as:Array Operand} {ts:Array TypeId} (ho:o.op=.call { callee:=.builtin .append,args:=as,argTypes:=ts }) (e:iH Θ S o.dst ts.toList as.toList=some (true,S')):adv P w0 W0 Z H S' a o.dst w (execOp a.eval o):=by
 obtain⟨as⟩:=as;obtain⟨ts⟩:=ts;simp only at e;unfold iH at e;split at e;case h_2=>cases e
 rename_i x y T T';split at e;case h_2=>cases e
 rename_i t e0 tag me xs S1 i hb hi;unfold St.take at hb;split at hb;case h_2=>cases hb
 rename_i av pL;obtain⟨eo,cs,ow,h1,hm,hM,hk,hn⟩:=rM h pL hb;cases hc:(decide (i.ty=.sl t)&&Nat.beq i.e e0&&Θ.is T' (.sl t)) with
 |false=>rw[hc] at e;cases e
 |true=>rw[hc] at e;simp only[ab] at e;simp only[ai,au] at hc;obtain⟨⟨rH,hee⟩,hT'⟩:=hc;have hee:=aw hee;subst hee;have xb:cs=[a.eval x]:=(by simpa[a6,isAgg] using hm);subst xb;obtain⟨i',hi',aqh⟩:=ph hT';obtain⟨_,QZ,hT1⟩:=kV hT hi';obtain⟨u1,_,_⟩:=F9 QZ aqh;rw[hT1] at u1;have aDd:cN w w (Av σ Z) (Av eo Z):=⟨λ_ _ _=>rfl,λg _ hg=>hk.Av.1 hg⟩;cases hme:me.eY with
 |true=>
  rw[hme] at e;simp only[ab] at e;split at e;case h_2=>cases e
  rename_i t' m' ys hy;cases hmi:m'.inn.eY with
  |false=>rw[hmi] at e;cases e
  |true=>
  rw[hmi] at e;simp only[ab] at e;split at e;case isFalse=>cases e
  rename_i htt;subst htt;simp only[ah,aF,au] at e;obtain⟨afB,rfl⟩:=e;unfold St.rd at hy;split at hy;case h_2=>cases hy
  rename_i av2 ahA;have hKS:=ahH h1 (eH h1 ahA) hy hmi;obtain⟨news,PD,Rw⟩:=aqn (P:=P) u1 hKS;refine Tz (n:=S1.length) (A:=Av eo Z) (owx:=ow) (SD:=λ_=>False) (τN:=λ_=>0) hT hi rH ho h1 rfl rfl (b8 aDd _ (λ_ _ _=>rfl) (λ_ h _=>h) (λ_ h=>h) hM) PD (λk uH=>KU hme (Rw k uH)) (λ_ _ h=>h) (λg hg=>?_) afB;rw[hn];exact hk.now g (hg.resolve_right id)
 |false=>
 rw[hme] at e;simp only[ae] at e;split at e;case h_2=>cases e
 rename_i t' m' ys S2 hy;split at e;case isFalse=>cases e
 rename_i htt;subst htt;split at e;case isFalse=>cases e
 rename_i hmi;simp only[ah,aF,au] at e;obtain⟨afB,rfl⟩:=e;unfold St.take at hy;split at hy;case h_2=>cases hy
 rename_i av2 ahA;obtain⟨lU,cs2,LF,h2,hm2,hM2,hk2,hn2⟩:=rM h1 ahA hy;rw[hn] at hk2 hn2;have xb:cs2=[a.eval y]:=by simpa[a6,isAgg] using hm2
 subst xb;have ayc:cN w w (Av eo Z) (Av lU Z):=⟨λ_ _ _=>rfl,λg _ hg=>hk2.Av.1 hg⟩;have aAQ:M w (Av lU Z) H (.sl t') m' ys [a.eval y] LF []:=b8 ayc _ (λ_ _ _=>rfl) (λ_ h _=>h) (λ_ h=>h) hM2;have hM':M w (Av lU Z) H (.sl t') (.o i.e tag me) xs [a.eval x] ow []:=b8 ⟨λ_ _ _=>rfl,λg _ hg=>hk.Av.1 (hk2.Av.1 hg)⟩ _ (λ_ _ _=>rfl) (λ_ h _=>h) (λ_ h=>h) hM;have Vr:∀ g,ow g∨LF g->∃ i,S.length<=i/\lU g=some i:=λg hg=>(hk.trans hk2).now g hg;simp only[M] at aAQ;rcases aAQ with⟨hn0,_⟩ |⟨hK,_⟩ |⟨T2,ahx,me2,X,c,rfl,e2,hle,aov,Rw⟩
 ·simp at hn0
 ·rw[←hmi] at hme;rw[Nf hK] at hme;cases hme
 simp only[Md.inn] at hmi;subst hmi;simp only[dW,iJ] at e2;have PD:∃ (SD:Nat->Prop) (τN:Nat->Nat) (news:List Value),Src P t'.size T' (a.eval y) ys.length news w/\(∀ g,SD g->LF g)/\
   ∀ (k:Nat) (hk:k<ys.length),M w (Av lU Z) H t' me2 ys[k] ((news.drop (k*t'.size)).take t'.size) (λg=>SD g/\τN g=k) []:=by
  rcases Rw with⟨hys,_⟩ |⟨g,cur,τ,hX,N9,hw,rz,aAP,Rw⟩
  ·subst hys
   obtain⟨news,s1,_⟩:=akt (P:=P) (w:=w) (t:=t') (ys:=([]:List t'.I)) (vy:=a.eval y) u1 rfl ⟨X,c,e2,λhp=>by simp at hp⟩
   exact⟨λ_=>False,λ_=>0,news,s1,λ_ h=>h.elim,λk hk=>by simp at hk⟩
  ·subst hX
   have Da:cur.toList.length=cur.size:=bQ
   have hb:=aC t'.size hle
   obtain⟨news,s1,s2⟩:=akt (P:=P) (w:=w) (t:=t') (ys:=ys) (vy:=a.eval y) u1 rfl ⟨some ⟨g,0,none⟩,c,e2,λhp=>⟨g,0,cur,T2,(0,0),rfl,hw,by omega,LL _ λj hj u hu=>by
    rw[dJ] at hu
    exact(rB t' (Rw j hj)).2 u hu⟩⟩
   refine⟨λg'=>LF g'/\g'≠g,τ,news,s1,λ_ h=>h.1,λk hk=>?_⟩
   rw[s2 g 0 cur T2 (0,0) _ c e2 rfl hw (by omega),LJ hk,dJ]
   exact b8 (cN.refl _ _) t' (λ_ _ _=>rfl) (λg' dH _=>⟨⟨dH.1,dH.2.1⟩,dH.2.2⟩) (λ_ h=>h) (Rw k hk)
 obtain⟨SD,τN,news,s1,s2,s3⟩:=PD;exact Tz (n:=S.length) (A:=Av lU Z) (owx:=ow) (SD:=SD) (τN:=τN) hT hi rH ho h2 hn2 rfl hM' s1 s3 (λg hg Ni=>hk.apart hk2 hg (s2 g Ni)) (λg hg=>Vr g (hg.imp id (s2 g))) afB
end Go.Pv
namespace Go.Pv
open List Int IntKind
variable {P:Program} {w w':World} {A A' Wr:Nat->Prop} {H:Nat->Value} {tm N':Nat->Value} {S S' S1:St} {σ eo:Nat->Option Nat} {w0:World} {W0 Z:Nat->Prop} {a:Act} {own:Nat->Prop} {v:Value} {Θ:kR} {dst:Option Nat}
theorem abe {p:Path} {ex:List Path} (h:∀ q∈ex,Na q p=false):U3 p ex=[]:=by
 have key:∀ (p r:Path),Na (p++r) p=true:=by
  intro p;induction p with
  |nil=>intro r;cases r<;>rfl
  |cons a p ih=>intro r;cases a<;>simp[Na,ih]
 apply List.eq_nil_iff_forall_not_mem.2;intro q hq;have:=h _ (aaG.1 hq);rw[key] at this;cases this
theorem PF (h:cY σ w0 W0 Z H S a w) {vv:Value} {t:Ty} {s:Nat} {p:Path} (hpc:p≠[]) {r:TV} {ex:List Path} {b:TV} (hh:Holds w (Av σ Z) H (gM a) S own (.al t s p) vv) (hs:S.at s=.v r ex) (hg:dA p r.t r.m r.x=some b) (hk:b.m.eY=false) (Da:∀ q∈ex,Na q p=false):
  ∃ eo cs ow,cY eo w0 W0 Z H (((S.weaken s).cover s p).set s (.v r (ex++[p]))) a w/\a6 b.t vv cs/\M w (Av eo Z) H b.t b.m b.x cs ow []/\wb σ eo S.length ow/\(((S.weaken s).cover s p).set s (.v r (ex++[p]))).length=S.length:=by
 obtain⟨r0,kI,cs,hr,hc,hm⟩:=hh
 obtain⟨ex0,b2,kS,ow0,j1,j2,j3,j4,hM,j5,j6,j7⟩:=vd h hr
 rw[hs] at j1
 injection j1 with j1 j1'
 subst j1 j1'
 have j1:=hs
 rw[hg] at j3
 injection j3 with j3
 subst j3
 have j3:=hg
 obtain⟨cs2,kH,k1,k2,k3,k4⟩:=aed p hM j2 hr.val j3 hk
 rw[hc] at k1
 injection k1 with k1
 subst k1
 rw[abe Da] at k3
 -- the ownership without what is taken
 have ap9:s<S.length:=qs (by rw[j1];exact λe=>by cases e)
 let eo:Nat->Option Nat:=λg=>open Classical in if kH g then some S.length else σ g
 have aa':∀ g i,eo g=some i->∃ k,σ g=some k:=by
  intro g i hg
  simp only[eo] at hg
  split at hg
  ·exact⟨s,k2 g (by assumption)⟩
  ·exact⟨i,hg⟩
 have aba:∀ g i,σ g=some i->¬kH g->eo g=some i:=by
  intro g i hg hn
  simp only[eo,ar hn,hg]
 have fZ:cN w w (Av σ Z) (Av eo Z):=⟨λ_ _ _=>rfl,λg _ hg=>by
  rcases hg with⟨i,hg⟩ |hg
  ·exact .inl (aa' g i hg)
  ·exact .inr hg⟩
 have ap':wb σ eo S.length kH:=by
  refine⟨λg hg=>⟨s,ap9,k2 g hg⟩,λg hg=>⟨_,aM _,by simp only[eo,ay hg]⟩,λg i hg hi=>?_,λg=>⟨λ⟨i,hg⟩=>aa' g i hg,λ⟨i,hg⟩=>?_⟩,λg i hg hi=>aba g i hg (λhx=>?_)⟩
  ·simp only[eo] at hg
   split at hg
   ·injection hg with hg;omega
   ·exact hg
  ·simp only[eo]
   split
   ·exact⟨_,rfl⟩
   ·exact⟨i,hg⟩
  ·have:=k2 g hx
   rw[hg] at this
   injection this with this
   omega
 refine⟨eo,cs,kH,?_,by rw[j4];exact hm,b8 fZ _ (λ_ _ _=>rfl) (λ_ h _=>h) (λ_ h=>h) k3,ap',by simp[St.weaken,St.cover]⟩
 have hlen:((S.weaken s).cover s p).length=S.length:=by simp[St.weaken,St.cover]
 have ZS:s<S.length:=by
  rcases gD s S.length with hl |hl
  ·exact hl
  ·unfold St.at at j1
   rw[aG,cv hl] at j1
   cases j1
 have X0:St.at (((S.weaken s).cover s p).set s (.v r (ex++[p]))) s=.v r (ex++[p]):=by rw[kT,ay ⟨rfl,by rw[hlen];exact ZS⟩]
 have F7:∀ i,i≠s->St.at (((S.weaken s).cover s p).set s (.v r (ex++[p]))) i=(match (bif (S.at i).qq s then AV.dead else S.at i) with
   | .ad t s' q=>bif Nat.beq s' s&&under p q then .dead else .ad t s' q
   |a=>a):=by
  intro i hi
  rw[kT,ar (λe=>hi e.1),aa9,z']
  try (cases (bif AV.qq s (S.at i) then AV.dead else S.at i)<;>rfl)
 refine⟨by simp only[bF,hlen];exact h.len,h.defers,h.fr,λg i hg=>(aa' g i hg).elim λk hk=>h.new g k hk,λg i hg=>(aa' g i hg).elim λk hk=>h.lt g k hk,λg hg=>⟨?_,(h.old g hg).2⟩,λi=>?_⟩
 ·simp only[eo]
  split
  ·rename_i hx
   have:=k2 g hx
   rw[(h.old g hg).1] at this
   cases this
  ·exact(h.old g hg).1
 ·by_cases his:i=s
  ·subst his
   rw[X0]
   exact⟨kI,hr.mat,b8 fZ _ (λ_ _ _=>rfl) (λg hg _=>aba g _ hg.1 hg.2) (λ_ h=>h) k4⟩
  ·rw[F7 i his]
   cases M7:(S.at i).qq s with
   |true=>trivial
   |false=>
    simp only[ae]
    have hi:=h.holds i
    have base:Holds w (Av eo Z) H (gM a) S (λg=>eo g=some i) (S.at i) (gM a i):=
     hi.kept fZ (λg hg _=>⟨rfl,aba g i hg (λhx=>his (by have:=k2 g hx;rw[hg] at this;injection this))⟩) (λs' _=>⟨λ_ _ h=>h,rfl,_,h.holds s',λ_ _ _=>rfl⟩)
    have hSv:∀ j r' ZR,j≠s->S.at j=.v r' ZR->St.at (((S.weaken s).cover s p).set s (.v r (ex++[p]))) j=.v r' ZR:=by
     intro j r' ZR hj hv
     rw[F7 j hj,hv]
     simp[AV.qq]
    cases tF:S.at i with
    |v b3 ex3=>
     rw[tF] at base
     obtain⟨c3,l1,l2⟩:=base
     exact⟨c3,l1,l2⟩
    |QU l=>
     rw[tF] at base
     exact base
    |ad t' s' q=>
     rw[tF] at base M7
     simp only
     cases ax2:(Nat.beq s' s&&under p q) with
     |true=>trivial
     |false=>
      simp only[ae]
      refine wz j1 hSv X0 M7 (λt2 q2 e2=>?_) base (λ_ _ e=>by cases e) (λ_ e=>by cases e)
      injection e2 with _ e3 e4
      subst e3 e4
      simpa using ax2
    |dead=>trivial
    |undef=>rw[tF] at base;exact base
    |al t' s' q=>
     rw[tF] at base M7
     exact wz j1 hSv X0 M7 (λt2 q2 e2=>by cases e2) base (λ_ _ e=>by cases e) (λ_ e=>by cases e)
    |cut t' s' q lo hi'=>
     rw[tF] at base M7
     exact wz j1 hSv X0 M7 (λt2 q2 e2=>by cases e2) base (λ_ _ e=>by cases e) (λ_ e=>by cases e)
    |EL f kn=>
     rw[tF] at base M7
     exact wz j1 hSv X0 M7 (λt2 q2 e2=>by cases e2) base (λ_ _ e=>by cases e) (λ_ e=>by cases e)
theorem akv (h:cY σ w0 W0 Z H S a w) {x:Operand} {t:Ty} {s:Nat} {p:Path} (hpc:p≠[]) {r:TV} {ex:List Path} {b:TV} (hh:Holds w (Av σ Z) H (gM a) S own (.al t s p) (a.eval x)) (hs:S.at s=.v r ex) (hg:dA p r.t r.m r.x=some b) (hk:b.m.eY=false) (Da:∀ q∈ex,Na q p=false): ∃ eo cs ow,cY eo w0 W0 Z H (((S.weaken s).cover s p).set s (.v r (ex++[p]))) a w/\a6 b.t (a.eval x) cs/\M w (Av eo Z) H b.t b.m b.x cs ow []/\wb σ eo S.length ow/\(((S.weaken s).cover s p).set s (.v r (ex++[p]))).length=S.length:=PF h hpc hh hs hg hk Da
theorem akw (hT:kh P Θ=true) (h:cY σ w0 W0 Z H S a w) {o:Oper} {as:Array Operand} {ts:Array TypeId} (ho:o.op=.call { callee:=.builtin .append,args:=as,argTypes:=ts }) (e:u9 Θ S o.dst ts.toList as.toList=some (true,S')):adv P w0 W0 Z H S' a o.dst w (execOp a.eval o):=by
 obtain⟨as⟩:=as;obtain⟨ts⟩:=ts;simp only at e;unfold u9 at e;split at e;case h_2=>cases e
 rename_i x y T T';split at e;case h_2=>cases e
 rename_i tt s st pp pL;split at e;case h_2=>cases e
 rename_i r ex hs;split at e;case h_2=>cases e
 rename_i t e0 tag me xs i hg hi;cases hc:(decide (i.ty=.sl t)&&Nat.beq i.e e0&&Θ.is T' (.sl t)&&me.eY) with
 |false=>rw[hc] at e;cases e
 |true=>
  rw[hc] at e;simp only[ab] at e;simp only[ai,au] at hc;obtain⟨⟨⟨rH,hee⟩,hT'⟩,hme⟩:=hc;have hee:=aw hee;subst hee;split at e;case h_2=>cases e
  rename_i t' m' ys hy;cases hmi:m'.inn.eY with
 |false=>rw[hmi] at e;cases e
 |true=>
 rw[hmi] at e;simp only[ab] at e;split at e;case isFalse=>cases e
 rename_i htt;subst htt;simp only[ah,aF,ai,au] at e;obtain⟨⟨Da,afB⟩,rfl⟩:=e;obtain⟨eo,cs,ow,h1,hm,hM,hk,hn⟩:=akv (x:=x) h (by simp) (eH h pL) hs hg (by simp[Md.eY]) (λq hq=>by simpa using aJ.1 Da q hq);have xb:cs=[a.eval x]:=by simpa[a6,isAgg] using hm
 subst xb;obtain⟨i',hi',aqh⟩:=ph hT';obtain⟨_,QZ,hT1⟩:=kV hT hi';obtain⟨u1,_,_⟩:=F9 QZ aqh;rw[hT1] at u1;unfold St.rd at hy;split at hy;case h_2=>cases hy
 rename_i av2 ahA;have hKS:=ahH h1 (eH h1 ahA) hy hmi;obtain⟨news,PD,Rw⟩:=aqn (P:=P) u1 hKS;refine Tz (n:=S.length) (A:=Av eo Z) (owx:=ow) (SD:=λ_=>False) (τN:=λ_=>0) hT hi rH ho h1 hn rfl hM PD (λk uH=>KU hme (Rw k uH)) (λ_ _ h=>h) (λg hg=>?_) afB;exact hk.now g (hg.resolve_right id)
end Go.Pv
namespace Go.Pv
open List Int IntKind
variable {P:Program} {w w':World} {A A' Wr:Nat->Prop} {H:Nat->Value} {tm N':Nat->Value} {S S' S1:St} {σ eo lU:Nat->Option Nat} {w0:World} {W0 Z:Nat->Prop} {a:Act} {own:Nat->Prop} {v:Value} {Θ:kR} {dst:Option Nat}
theorem cY.setAt (h:cY σ w0 W0 Z H S a w) {i:Nat} {av:AV} (Rx:∀ j,j≠i->(S.at j).refs i=false) (hv:Holds w (Av σ Z) H (gM a) (S.set i av) (λg=>σ g=some i) av (gM a i)): cY σ w0 W0 Z H (S.set i av) a w:=by
 refine⟨by rw[bF];exact h.len,h.defers,h.fr,h.new,h.lt,h.old,λj=>?_⟩;rw[kT];by_cases hj:j=i/\i<S.length
 ·rw[ay hj,hj.1];exact hv
 rw[ar hj];by_cases HB:j=i
 ·have:S.at j=.dead:=ca λhx=>hj ⟨HB,by rw[←HB];exact qs hx⟩;rw[this];trivial
 refine(h.holds j).kept (cN.refl _ _) (λg hg _=>⟨rfl,hg⟩) (λs hs=>?_);have hsi:s≠i:=λe=>by subst e;rw[Rx j HB] at hs;cases hs
 exact⟨λr ex hr=>by rw[kT,ar (λe=>hsi e.1)];exact hr,rfl,_,h.holds s,λ_ _ _=>rfl⟩
theorem cY.part (h:cY σ w0 W0 Z H S a w) {i:Nat} (hi:∀ r ex,S.at i≠ .v r ex) (hl:i<S.length) {Q:Nat->Prop} {av:AV} (hv:Holds w (Av σ Z) H (gM a) (S.set i av) (λg=>σ g=some i/\ ¬Q g) av (gM a i)): ∃ eo,cY eo w0 W0 Z H (S.set i av) a w/\wb σ eo S.length (λg=>σ g=some i/\Q g):=by
 let eo:Nat->Option Nat:=λg=>open Classical in if σ g=some i/\Q g then some S.length else σ g
 have hs:∀ g j,eo g=some j->∃ k,σ g=some k:=λg j hg=>by
  simp only[eo] at hg;split at hg
  ·rename_i hx;exact⟨i,hx.1⟩
  exact⟨j,hg⟩
 have JD:∀ g j,σ g=some j->¬(σ g=some i/\Q g)->eo g=some j:=λg j hg hn=>by simp only[eo,ar hn,hg]
 have fZ:cN w w (Av σ Z) (Av eo Z):=⟨λ_ _ _=>rfl,λg _ hg=>by
  rcases hg with⟨j,hg⟩ |hg
  ·exact .inl (hs g j hg)
  ·exact .inr hg⟩
 refine⟨eo,⟨by rw[bF];exact h.len,h.defers,h.fr,λg j hg=>(hs g j hg).elim λk hk=>h.new g k hk,λg j hg=>(hs g j hg).elim λk hk=>h.lt g k hk,λg hg=>⟨?_,(h.old g hg).2⟩,λj=>?_⟩,?_⟩
 ·simp only[eo];rw[ar (λhx=>by rw[(h.old g hg).1] at hx;cases hx.1)];exact(h.old g hg).1
 ·rw[kT];by_cases hj:j=i
  ·rw[ay ⟨hj,hl⟩,hj];exact hv.kept fZ (λg hg _=>⟨rfl,JD g i hg.1 (λhx=>hg.2 hx.2)⟩) (λs _=>⟨λ_ _ h=>h,rfl,by
    by_cases hsi:s=i
    ·subst hsi
     rw[kT,ay ⟨rfl,hl⟩]
     exact⟨_,hv,λ_ _ _=>rfl⟩
    ·rw[kT,ar (λe=>hsi e.1)]
     refine⟨_,(h.holds s).kept (cN.refl _ _) (λg hg _=>⟨rfl,hg⟩) (λs1 hs1=>⟨λr ex hr=>?_,rfl,_,h.holds s1,λ_ _ _=>rfl⟩),λ_ _ _=>rfl⟩
     by_cases aAR:s1=i
     ·subst aAR;exact absurd hr (hi r ex)
     ·rw[kT,ar (λe=>aAR e.1)];exact hr⟩)
  rw[ar (λe=>hj e.1)];refine(h.holds j).kept fZ (λg hg _=>⟨rfl,JD g j hg (λhx=>hj (by rw[hx.1] at hg;injection hg with hg;exact hg.symm))⟩) (λs hs1=>⟨λr ex hr=>?_,rfl,_,h.holds s,λ_ _ _=>rfl⟩);by_cases hsi:s=i
  ·subst hsi;exact absurd hr (hi r ex)
  rw[kT,ar (λe=>hsi e.1)];exact hr
 refine⟨λg hg=>⟨i,hl,hg.1⟩,λg hg=>⟨_,aM _,by simp only[eo,ay hg]⟩,λg j hg hj=>?_,λg=>⟨λ⟨j,hg⟩=>hs g j hg,λ⟨j,hg⟩=>?_⟩,λg j hg hj=>JD g j hg (λhx=>?_)⟩
 ·simp only[eo] at hg;split at hg
  ·injection hg with hg;omega
  exact hg
 ·simp only[eo];split
  ·exact⟨_,rfl⟩
  exact⟨j,hg⟩
 rw[hx.1] at hg;injection hg with hg;omega
theorem abf (h:cY σ w0 W0 Z H S a w) {o:Oper} {x:Operand} {j:Nat} (ho:o.op=.extract x j) (e:u7 S o.dst x j=some (true,S')):Df P w0 W0 Z H S' a o.dst w (execOp a.eval o):=by
 unfold u7 at e;split at e;case h_2=>cases e
 rename_i i;split at e;case h_2=>cases e
 rename_i l hl;split at e;case h_2=>cases e
 rename_i b hb;have hh:=h.holds i;rw[hl] at hh;obtain⟨vs,τ,hv,hlen,Rw⟩:=hh;have hbj:l[j]?=some (some b):=by
  rw[aG] at hb;cases hq:l[j]? with
  |none=>rw[hq] at hb;cases hb
  |some q=>rw[hq] at hb;simp only[qj] at hb;rw[hb]
 obtain⟨u,cs,hu,hm,hM⟩:=Rw j b hbj;have iu:∀ w2,(execOp a.eval o).run P w2=.ok (.value u) w2:=λw2=>by have:a.eval (.tmp i)=.tuple vs.toArray:=hv;simp[execOp,ho,this,Instr.extract,hu]
 cases hk:b.m.eY with
 |true=>rw[hk] at e;simp only[ab,ah,aF,cl] at e;subst e;exact hZ h iu ⟨cs,hm,KU hk (tD _ hk hM)⟩
 |false=>
 rw[hk] at e;simp only[ae] at e;split at e;case h_2=>cases e
 rename_i d hd;cases hdi:Nat.beq d i with
 |true=>rw[hdi] at e;cases e
 |false=>
 rw[hdi] at e;simp only[ae,ah,aF,cl] at e;subst e;rw[←hd];have hil:i<S.length:=qs (by rw[hl];exact λe=>by cases e);obtain⟨eo,h1,hk1⟩:=h.part (i:=i) (λr ex=>by rw[hl];exact λe=>by cases e) hil (Q:=λg=>τ g=j) (av:=.QU (l.set j none)) ⟨vs,τ,hv,by rw[bF];exact hlen,λk b' uH=>by
  rw[iF] at uH
  split at uH
  ·split at uH<;>cases uH
  ·rename_i hjk
   obtain⟨u',kS,c1,c2,c3⟩:=Rw k b' uH
   exact⟨u',kS,c1,c2,b8 (cN.refl _ _) _ (λ_ _ _=>rfl) (λg hg _=>⟨⟨hg.1,λhx=>hjk (by rw[←hx,hg.2])⟩,hg.2⟩) (λ_ h=>h) c3⟩⟩
 exact x7.still (v:=u) iu (LG (n:=S.length) h1 hk1 (bF) (λw2 _=>iu w2) hm (b8 (cN.refl _ _) _ (λ_ _ _=>rfl) (λg hg _=>hg) (λ_ h=>h) hM))
theorem aqo (S:St) (d:Nat) (b:TV) (ex:List Path) (i:Nat) (hi:∀ j,(S.at j).refs i=false) (j:Nat):((S.put (some d) (.v b ex)).at j).refs i=false:=by
 rw[nm];split
 ·simp[AV.refs]
 cases hr:(S.at j).refs d&&(S.at d).UX with
 |true=>simp[AV.refs]
 |false=>exact hi j
theorem aoz (S:St) (i:Nat) (hv:(S.at i).UX=true) (j:Nat):((S.put (some i) .dead).at j).refs i=false:=by
 rw[nm];split
 ·simp[AV.refs]
 rw[hv,cM];cases hr:(S.at j).refs i with
 |true=>simp[AV.refs]
 |false=>exact hr
theorem aoA (h:cY σ w0 W0 Z H S a w) {o:Oper} {x:Operand} (ho:o.op=.assign x) (e:aaC Θ S o.dst o.type x=some (true,S')):x7 P w0 W0 Z H S' a o.dst w (execOp a.eval o):=by
 have iu:∀ w2,Ext w w2->(execOp a.eval o).run P w2=.ok (.value (a.eval x)) w2:=λw2 _=>by simp only[execOp,ho];rfl
 unfold aaC at e;split at e;case h_2=>
  split at e
  ·injection e with e
   injection e with _ e
   subst e
   exact jd h iu trivial
  ·cases e
 rename_i av pL;have hh:=eH h pL;split at e
 ·-- a value of a temporary
  rename_i d i b ex hd
  cases hk:b.m.eY with
  |true=>
   rw[hk] at e
   simp only[ab,ah,aF,cl] at e
   subst e
   obtain⟨cs,h1,h2⟩:=hh
   exact jd h iu ⟨cs,h1,KU hk (tD _ hk h2)⟩
  |false=>
   rw[hk] at e
   simp only[ae] at e
   split at e
   case h_2=>cases e
   cases hdi:(Nat.beq d i|| !Nat.blt d S.length) with
   |true=>rw[hdi] at e;cases e
   |false=>
   rw[hdi] at e
   simp only[ae,ah,aF,cl] at e
   subst e
   simp only[Bool.or_eq_false_iff,Bool.not_eq_false'] at hdi
   have aAS:d≠i:=λe=>by rw[e,bS] at hdi;cases hdi.1
   have hdl:d<S.length:=jC (bJ hdi.2)
   obtain⟨cs,h1,h2⟩:=hh
   simp only[St.pJ,ah] at pL
   have hil:i<S.length:=qs (by rw[pL];exact λe=>by cases e)
   have hp:=h.Db i
   have hk:wb σ (Db σ S.length i) S.length (awZ σ (.tmp i)):=wb.Db σ hil (λg hg=>by obtain⟨j,hj,hg⟩:=hg;injection hj with hj;subst hj;exact hg)
   obtain⟨v2,hr2,lU,h3⟩:=LG (P:=P) (dst:=some d) (n:=S.length) hp hk (eC _ _ _) iu h1 h2
   have hv2:=hr2 w (Ext.refl w)
   rw[iu w (Ext.refl w)] at hv2
   injection hv2 with e1 e2
   injection e1 with e1
   subst e1
   refine⟨a.eval (.tmp i),iu,lU,?_⟩
   rw[hd]
   refine h3.setAt (λj _=>aqo _ d b [] i (aoz S i (by rw[pL];rfl)) j) ?_
   have htm:gM (a.put (some d) (a.eval (.tmp i))) i=gM a i:=by rw[XK,ar (λe=>aAS e.1.symm)]
   have htd:gM (a.put (some d) (a.eval (.tmp i))) d=gM a i:=by rw[XK,ay ⟨rfl,by rw[←h.len];exact hdl⟩];rfl
   refine⟨b,cs,cs,⟨⟨[],?_,λq hq=>by simp at hq⟩,trivial,⟨b,rfl,rfl⟩,by rw[htd];exact h1⟩,rfl,by rw[htm];exact h1⟩
   rw[kT,ar (λe=>aAS e.1),nm,ay ⟨rfl,by rw[eC];exact hdl⟩]
   rfl
 ·-- another value
  rename_i b ex wj
  cases hk:b.m.eY with
  |true=>
   rw[hk] at e
   simp only[ab,ah,aF,cl] at e
   subst e
   obtain⟨cs,h1,h2⟩:=hh
   exact jd h iu ⟨cs,h1,KU hk (tD _ hk h2)⟩
  |false=>
   rw[hk] at e
   simp only[ae] at e
   split at e
   case h_2=>cases e
   simp only[ah,aF,cl] at e
   subst e
   obtain⟨cs,h1,h2⟩:=hh
   exact jd h iu ⟨cs,h1,b8 (cN.refl _ _) _ (λ_ _ _=>rfl) (λg hg _=>by obtain⟨i,hi,_⟩:=hg;cases hi) (λ_ h=>h) h2⟩
 ·rename_i d t s hd;cases XL:Nat.beq s d with
  |true=>rw[XL] at e;cases e
  |false=>rw[XL] at e;simp only[ae,ah,aF,cl] at e;subst e;exact jd h iu hh
 ·rename_i d f c hd;cases XL:AV.refs d (.EL f c) with
  |true=>rw[XL] at e;cases e
  |false=>rw[XL] at e;simp only[ae,ah,aF,cl] at e;subst e;exact jd h iu hh
 ·simp only[ah,aF,cl] at e;subst e;exact jd h iu hh
 split at e;case h_2=>cases e
 rename_i b S1 hb;simp only[ah,aF,cl] at e;subst e;obtain⟨eo,cs,ow,h1,hm,hM,hk,hn⟩:=rM h pL hb;exact LG h1 hk hn iu hm hM
end Go.Pv
namespace Go.Pv
open List Int IntKind
variable {P:Program} {w w':World} {A A' Wr:Nat->Prop} {H:Nat->Value} {tm N':Nat->Value} {S S' S1:St} {σ eo lU:Nat->Option Nat} {w0:World} {W0 Z:Nat->Prop} {a:Act} {own:Nat->Prop} {v:Value} {Θ:kR} {dst:Option Nat}
theorem akx (h:cY σ w0 W0 Z H S a w) {o:Oper} {T:TypeId} {r:Option Operand} (ho:o.op=.makeMap T r) (e:XG S o.dst T r=some (true,S')):Vn P w0 W0 Z H S' a o.dst w (execOp a.eval o):=by
 unfold XG at e;split at e;case h_2=>cases e
 simp only[ah,aF,cl] at e;subst e;refine⟨w.alloc (.map #[] 0),.map (some w.heap.size),?_,λg hg=>heap_alloc_old w _ g hg,_,h.afv (b:=⟨.mp,.o T none .k,[]⟩) (cs:=[.map (some w.heap.size)]) (ow:=λg=>g=w.heap.size) (A':=λg=>Av σ Z g∨g=w.heap.size) (λg hg=>heap_alloc_old w _ g hg) (h.fr.alloc _) (λg hg=>?_) (λg hg hx=>hx) (by simp[a6,isAgg]) ?_⟩
 ·have hr:(Instr.makeMap T none).run P w=.ok (.map (some w.heap.size)) (w.alloc (.map #[] 0)):=rfl;simp[execOp,ho,hr]
 ·subst hg;exact⟨by simp only[World.alloc,gf];omega,.inr (aM _)⟩
 simp only[M];exact .inr (.inr ⟨T,none,w.heap.size,#[],0,rfl,rfl,λh hh=>(by cases hh),rfl,gW w _,rfl,by simp,λq hq=>by simp at hq⟩)
theorem aqp {k:List Int} (h:ZP k=true):∃ a b,k=[a,b]/\(Lit.int .i64 a).wf=true/\(Lit.int .i64 b).wf=true:=by
 unfold ZP at h
 rw[ai] at h
 have h1:=aw h.1
 match k,h1 with
 |[a,b],_=>
  have h2:=h.2
  simp only[lO,List.all_nil,cM,ai,au] at h2
  refine⟨a,b,rfl,?_,?_⟩<;>simp[Lit.wf,IntKind.min,IntKind.max,IntKind.signed,IntKind.bits]<;>omega
theorem aqq {k k':List Int} (h:M' k=M' k'):k=k':=by unfold M' at h;injection h with h;have:=br Array.toList h;simp only at this;exact(List.map_inj_right (λa b h=>by injection h)).1 this
structure aDe (P:Program) (T:TypeId):Prop where
 out:∃ k e t,P.underlying T=some (.map k e)/\WideMaps.ArrKey P k t 2/\P.underlying t=some (.int .i64)/\(∃ m,P.types.size=m+1)/\∃ inf,P.info? e=some inf/\inf.zero=some (.bool false)
theorem aAT (hT:kh P Θ=true) {T:TypeId} (h:Θ.is T .mp=true):aDe P T:=by obtain⟨i,hi,ht⟩:=ph h;obtain⟨_,hu,rfl⟩:=kV hT hi;exact⟨axX hu ht⟩
theorem afD {k t:TypeId} (hA:WideMaps.ArrKey P k t 2) (ht:P.underlying t=some (.int .i64)) (hs:∃ m,P.types.size=m+1) {x:List Int} (hx:ZP x=true):∃ l,Go.keyOf P k (M' x)=some l:=by obtain⟨a,b,rfl,h1,h2⟩:=aqp hx;exact⟨_,WideMaps.keyOf_pair hA ht hs h1 h2⟩
theorem Zk:∀ {x:List (List Int×Bool)} {k:List Int},(∀ q∈x,q.1≠k)->xM x k=none
 |[],_,_=>rfl
 |q::r,k,h=>by simp only[xM,an (h q (by simp)),ae];exact Zk λq hq=>h q (by simp[hq])
theorem aei:∀ {x:List (List Int×Bool)} {k:List Int} {j:Nat} {b:Bool},(x.map (·.1)).Nodup->x[j]?=some (k,b)->xM x k=some b
 |[],_,_,_,_,h=>by simp at h
 |q::r,k,0,b,_,h=>by simp only[aD,ah] at h;subst h;simp[xM]
 |q::r,k,j+1,b,hn,h=>by simp only[bz,ek] at hn;simp only[eO] at h;have wj:q.1≠k:=λe=>hn.1 (by rw[e];exact cg.2 ⟨_,da h,rfl⟩);simp only[xM,an wj,ae];exact aei hn.2 h
theorem Zl:∀ {x:List (List Int×Bool)} {k:List Int} {b:Bool},(∀ q∈x,q.1≠k)->AU x k b=x++[(k,b)]
 |[],_,_,_=>rfl
 |q::r,k,b,h=>by simp only[AU,an (h q (by simp)),ae,bD];rw[Zl λq hq=>h q (by simp[hq])]
theorem aej:∀ {x:List (List Int×Bool)} {k:List Int} {j:Nat} {b0 b:Bool},(x.map (·.1)).Nodup->x[j]?=some (k,b0)->AU x k b=x.set j (k,b)
 |[],_,_,_,_,_,h=>by simp at h
 |q::r,k,0,b0,b,_,h=>by simp only[aD,ah] at h;subst h;simp[AU]
 |q::r,k,j+1,b0,b,hn,h=>by simp only[bz,ek] at hn;simp only[eO] at h;have wj:q.1≠k:=λe=>hn.1 (by rw[e];exact cg.2 ⟨_,da h,rfl⟩);simp only[AU,an wj,ae,List.set_cons_succ];rw[aej hn.2 h]
theorem ahI {k t:TypeId} (hA:WideMaps.ArrKey P k t 2) (ht:P.underlying t=some (.int .i64)) (hs:∃ m,P.types.size=m+1) {es:Array MapEntry} {x:List (List Int×Bool)} (hm:aaB es x) {q:List Int} (hq:ZP q=true) (w:World): ((Instr.findKey k (M' q) es.toList).run P w=.ok none w/\∀ p∈x,p.1≠q)∨∃ j e0 b,(Instr.findKey k (M' q) es.toList).run P w=.ok (some (j,.bool b)) w/\es[j]?=some e0/\e0.key=M' q/\x[j]?=some (q,b):=by
 obtain⟨h1,h2,h3⟩:=hm;obtain⟨l,hl⟩:=afD hA ht hs hq;have nI:∀ (j:Nat) (e0:MapEntry),es.toList[j]?=some e0->∃ p,x[j]?=some p/\e0.key=M' p.1/\e0.val=.bool p.2:=λj e0 hj=>by have:=br (λl:List (Value×Value)=>l[j]?) h1;simp only[bO,hj,aP] at this;obtain⟨p,hp,hpe⟩:=na.1 this.symm;injection hpe with e1 e2;exact⟨p,hp,e1.symm,e2.symm⟩
 have aqr:∀ e0∈es.toList,∃ l,Go.keyOf P k e0.key=some l:=λe0 he=>by obtain⟨j,hj⟩:=sI.1 he;obtain⟨p,hp,hk,_⟩:=nI j e0 hj;rw[hk];exact afD hA ht hs (h3 p (da hp))
 rcases hA.law.find w hl es.toList aqr with⟨a1,a2⟩ |⟨j,e0,a1,a2,a3⟩
 ·refine .inl ⟨a1,λp hp e=>?_⟩;obtain⟨j,hj⟩:=sI.1 hp;have:=br (λl:List (Value×Value)=>l[j]?) h1;simp only[bO,hj,aP] at this;obtain⟨e0,he0,hee⟩:=na.1 this;injection hee with e1 e2;exact a2 e0 (da he0) (by rw[e1,e])
 obtain⟨p,hp,hk,hv⟩:=nI j e0 a2;have hpq:p.1=q:=aqq (hk.symm.trans a3);rw[hv] at a1;exact .inr ⟨j,e0,p.2,a1,by simpa using a2,a3,by rw[hp,←hpq]⟩
theorem Q3 {k t:TypeId} (hA:WideMaps.ArrKey P k t 2) (ht:P.underlying t=some (.int .i64)) (hs:∃ m,P.types.size=m+1) {q:List Int} (hq:ZP q=true) (w:World) (em:Bool):(Instr.checkKey em 10000 k (M' q)).run P w=.ok () w:=by obtain⟨l,hl⟩:=afD hA ht hs hq;exact hA.law.check w em hl
theorem aoB {k t:TypeId} (hA:WideMaps.ArrKey P k t 2) (ht:P.underlying t=some (.int .i64)) (hs:∃ m,P.types.size=m+1) {q:List Int} (hq:ZP q=true) (w:World):(Instr.keyThatStays (M' q) (M' q)).run P w=.ok (M' q) w:=by obtain⟨l,hl⟩:=afD hA ht hs hq;exact hA.law.stays w hl
theorem amH {n:Nat} {k:List Int} {v:Value} {cs:List Value} (hm:a6 (.arr n (.int .i64)) v cs) (hk:K w A (.arr n (.int .i64)) k cs):v=M' k:=by
 simp only[K] at hk;obtain⟨rX,rfl,h1,h2,h3⟩:=hk;have e:rX=k.map λx=>[Value.int .i64 x]:=by
  apply wx
  ·rw[aY,h1];exact h2.symm
  intro j hj hj';rw[qm];exact h3 j (by simpa using hj') hj
 simp only[a6,isAgg,dy] at hm;rw[hm,e];have:∀ k:List Int,(k.map λx=>[Value.int .i64 x]).flatten=k.map (Value.int .i64):=λk=>by
  induction k with
  |nil=>rfl
  |cons a r ih=>simp[ih]
 rw[this];rfl
theorem aoC (hT:kh P Θ=true) (h:cY σ w0 W0 Z H S a w) {o:Oper} {T:TypeId} {x y:Operand} {ok:Bool} (ho:o.op=.lookup T x y ok) (e:aaF Θ S o.dst T x y ok=some (true,S')):x7 P w0 W0 Z H S' a o.dst w (execOp a.eval o):=by
 unfold aaF at e;split at e;case h_2=>cases e
 rename_i m xs n m' k hx hy;cases hc:Θ.is T .mp with
 |false=>rw[hc] at e;cases e
 |true=>
  rw[hc] at e;simp only[ab,ah,aF] at e;obtain⟨hk,rfl⟩:=e;obtain⟨cs,h1,h2,_⟩:=qi h hx;obtain⟨kS,h3,h4,_⟩:=qi h hy;have hy':=amH h3 h4;simp only[K] at h2;obtain⟨g,es,c,rfl,_,hw,hm⟩:=h2;simp only[a6,isAgg] at h1;have Pf:a.eval x=.map (some g):=(by simpa using h1.symm);obtain⟨kt,et,t,hu,hA,ht,hs,inf,hi,hz⟩:=(aAT hT hc).out;have gC:=dh hw;have run:∀ w2,Ext w w2->(execOp a.eval o).run P w2=.ok (.value (.tuple #[.bool ((xM xs k).getD false),.bool (xM xs k).isSome])) w2:=λw2 Nh=>by
   have hb:=(Nh g gC).trans hw;have hzr:(zeroValue et).run P w2=.ok (.bool false) w2:=(by simp[zeroValue,typeInfo,hi,hz]);rcases ahI hA ht hs hm hk w2 with⟨a1,a2⟩ |⟨j,e0,b,a1,a2,a3,a4⟩
   ·rw[Zk a2];simp[execOp,ho,Pf,hy',Instr.lookup,a7 hu,lV hb,Q3 hA ht hs hk w2,a1,hzr,Result.andThen]
   rw[aei hm.2.1 a4];simp[execOp,ho,Pf,hy',Instr.lookup,a7 hu,lV hb,Q3 hA ht hs hk w2,a1,Result.andThen]
  refine jd h run ⟨[.bool ((xM xs k).getD false),.bool (xM xs k).isSome],λ_=>0,rfl,rfl,λj b hj=>?_⟩;match j with
 |0=>simp only[aD,ah] at hj;subst hj;exact⟨_,[.bool ((xM xs k).getD false)],rfl,by simp[a6,isAgg],by simp[M,K,Md.eY]⟩
 |1=>simp only[eO,aD,ah] at hj;subst hj;exact⟨_,[.bool (xM xs k).isSome],rfl,by simp[a6,isAgg],by simp[M,K,Md.eY]⟩
 |j+2=>simp at hj
theorem aek {es:Array MapEntry} {x:List (List Int×Bool)} (hm:aaB es x) {q:List Int} {b:Bool} (hq:ZP q=true) (c:Nat): ((∀ p∈x,p.1≠q)->aaB (es.push ⟨M' q,.bool b,c⟩) (AU x q b))/\∀ j e0 b0,es[j]?=some e0->x[j]?=some (q,b0)->aaB (es.modify j λe'=>{ e' with key:=M' q,val:=.bool b }) (AU x q b):=by
 obtain⟨h1,h2,h3⟩:=hm;refine⟨λhn=>?_,λj e0 b0 he hx=>?_⟩
 ·rw[Zl hn];refine⟨by simp[h1],?_,λp hp=>?_⟩
  ·rw[iL,ft];refine⟨h2,by simp,λp hp p' hp'=>?_⟩;simp only[bz,qW,bj] at hp';subst hp';obtain⟨p0,hp0,rfl⟩:=cg.1 hp;exact hn p0 hp0
  rcases a8.1 hp with hp |hp
  ·exact h3 p hp
  simp only[bj] at hp;subst hp;exact hq
 rw[aej h2 hx];have Oe:j<x.length:=(bL.1 hx).1;have hxj:x[j]=(q,b0):=(bL.1 hx).2;have aqr:(x.set j (q,b)).map (·.1)=x.map (·.1):=by
  rw[n7];apply cU;intro i;rw[iF];by_cases QX:j=i
  ·subst QX;simp[Oe,hxj]
  rw[ar QX]
 refine⟨?_,by rw[aqr];exact h2,λp hp=>?_⟩
 ·rw[Array.toList_modify,ChangeMaps.modify_eq_set _ _ _ _ (by simpa using he),n7,n7,h1]
 rcases fK hp with hp |rfl
 ·exact h3 p hp
 exact hq
theorem Fr.setBlock (h:Fr w0 W0 w) {g:Nat} {x:Obj} {es:Array MapEntry} {c:Nat} (hw:w.heap[g]?=some (.map es c)) (hg:w0.heap.size<=g∨W0 g):Fr w0 W0 (ChangeMaps.setBlock w g x):=by refine⟨h.os,h.tape,h.output,by simp[ChangeMaps.setBlock];exact h.size,λk hk hn=>?_⟩;rw[ChangeMaps.heap_setBlock_other hw _ (λe=>by subst e;rcases hg with hg |hg;omega;exact hn hg)];exact h.block k hk hn
theorem afE (hT:kh P Θ=true) (h:cY σ w0 W0 Z H S a w) {o:Oper} {T:TypeId} {x y z:Operand} (ho:o.op=.mapUpdate T x y z) (Fg:o.dst=none) (e:Pm Θ S T x y z=some (true,S')):adv P w0 W0 Z H S' a o.dst w (execOp a.eval o):=by
 unfold Pm at e;split at e;case h_2=>cases e
 rename_i s n m' k m'' b hx hy hz;split at e;case h_2=>cases e
 rename_i T' tag me xs hs;cases hc:Θ.is T .mp with
 |false=>rw[hc] at e;cases e
 |true=>
 rw[hc] at e;simp only[ab,ah,aF] at e;obtain⟨hk,e⟩:=e;have hal:=eH h hx;obtain⟨r,kI,cs,hr,xb,hmv⟩:=hal;obtain⟨⟨ex,h1,_⟩,_,_,Vv⟩:=hr;rw[hs] at h1;injection h1 with h1 h1';subst h1 h1';simp only[cz,ah] at xb;subst xb;have hh:=h.holds s;rw[hs] at hh;obtain⟨cs1,hm1,hM⟩:=hh;obtain rfl:=oA Vv hm1;simp only[M] at hM;rcases hM with⟨h2,_⟩ |⟨h2,_⟩ |⟨T2,ahx,g,es,c,e1,rfl,aov,hg,hw,hm⟩
 ·simp at h2
 ·simp[Md.eY] at h2
 injection e1 with e1 e2 e3;subst e1 e2 e3;simp only[a6,isAgg] at hmv;have Pf:a.eval x=.map (some g):=by simpa using hmv.symm
 obtain⟨kS,h3,h4,_⟩:=qi h hy;have hy':=amH h3 h4;obtain⟨aD9,h5,h6,_⟩:=qi h hz;have hz':=lQ h5 h6;obtain⟨kt,et,t,hu,hA,ht,rz,inf,hi,hzz⟩:=(aAT hT hc).out;obtain⟨es',c',iu,hm'⟩:∃ es' c',(Instr.mapUpdate T (.map (some g)) (M' k) (.bool b)).run P w=.ok () (ChangeMaps.setBlock w g (.map es' c'))/\aaB es' (AU xs k b):=by
  rcases ahI hA ht rz hm hk w with⟨a1,a2⟩ |⟨j,e0,b0,a1,a2,a3,a4⟩
  ·refine⟨es.push ⟨M' k,.bool b,c⟩,c+1,?_,(aek hm hk c).1 a2⟩;simp[Instr.mapUpdate,a7 hu,lV hw,Q3 hA ht rz hk w,a1,MapKept.run_setObj_map _ hw,Result.andThen,ChangeMaps.setBlock]
  refine⟨es.modify j λe'=>{ e' with key:=M' k,val:=.bool b },c,?_,(aek hm hk c).2 j e0 b0 a2 a4⟩;simp[Instr.mapUpdate,a7 hu,lV hw,Q3 hA ht rz hk w,a1,a2,a3,aoB hA ht rz hk w,MapKept.run_setObj_map _ hw,Result.andThen,ChangeMaps.setBlock]
 have ZS:s<S.length:=qs (by rw[hs];exact λe=>by cases e);have rY:∀ k',k'≠g->(ChangeMaps.setBlock w g (.map es' c')).heap[k']?=w.heap[k']?:=λk' uH=>ChangeMaps.heap_setBlock_other hw _ uH;have xB:(ChangeMaps.setBlock w g (.map es' c')).heap[g]?=some (.map es' c'):=ChangeMaps.heap_setBlock_same hw _;have fZ:cN w (ChangeMaps.setBlock w g (.map es' c')) (Av σ Z) (Av σ Z):=⟨λk' uH _=>rY k' (λe'=>uH (by rw[e'];exact .inl ⟨s,hg⟩)),λk' _ uH=>uH⟩;have Vs:M (ChangeMaps.setBlock w g (.map es' c')) (Av σ Z) H .mp (.o T' tag .k) (AU xs k b) [.map (some g)] (λg'=>σ g'=some s) []:=by simp only[M];exact .inr (.inr ⟨T',tag,g,es',c',rfl,rfl,aov,hg,xB,hm'⟩)
 have nI:∀ i,S'.at i=if i=s then .v ⟨.mp,.o T' tag .k,AU xs k b⟩ [] else bif (S.at i).qq s then .dead else S.at i:=by
  intro i;rw[←e,kT];by_cases hi:i=s
  ·rw[ay hi,ay ⟨hi,by simp[St.weaken];exact ZS⟩]
  rw[ar hi,ar (λh=>hi h.1),z']
 rw[Fg];refine⟨ChangeMaps.setBlock w g (.map es' c'),undef,.inr ⟨rfl,?_⟩,σ,?_⟩
 ·simp only[execOp,ho,Pf,hy',hz',aZ,iu,aV];rfl
 show cY σ w0 W0 Z H S' a (ChangeMaps.setBlock w g (.map es' c'));refine⟨by rw[←e];simp[St.weaken];exact h.len,h.defers,h.fr.setBlock hw (h.new g s hg),h.new,λg' i dH=>?_,h.old,λi=>?_⟩
 ·simp[ChangeMaps.setBlock];exact h.lt g' i dH
 rw[nI i];by_cases his:i=s
 ·subst his;rw[ay rfl];exact⟨_,Vv,Vs⟩
 rw[ar his];cases M7:(S.at i).qq s with
 |true=>trivial
 |false=>
 simp only[ae];refine SB (r:=⟨.mp,.o T' tag .k,xs⟩) (r':=⟨.mp,.o T' tag .k,AU xs k b⟩) (ex:=[]) (ZR:=[]) fZ rfl hs (by rw[nI s,ay rfl]) (λj r1 ex1 hj hv=>by rw[nI j,ar hj,hv];simp[AV.qq]) ⟨_,_,Vv,Vs⟩ (λ_ hq=>hq)
  (λq _ hv=>by
   cases q with
   |nil=>trivial
   |cons st q=>cases st<;>exact hv.elim) (λq b1 hq=>by
   cases q with
   |nil=>exact⟨_,rfl,by injection hq with hq;subst hq;rfl⟩
   |cons st q=>cases st<;>simp[dA] at hq) (λj hj=>⟨_,h.holds j,λg' dH _=>rY g' (λe'=>by subst e';rw[hg] at dH;injection dH with dH;exact hj dH.symm)⟩)
  (λg' dH _=>⟨rY g' (λe'=>by subst e';rw[hg] at dH;injection dH with dH;exact his dH.symm),dH⟩) M7 (h.holds i)
theorem aoD (hT:kh P Θ=true) (h:cY σ w0 W0 Z H S a w) {o:Oper} {T:TypeId} {ps:Array (Nat×Operand)} (ho:o.op=.build T ps) (e:U1 Θ S o.dst T ps.toList=some (true,S')):Df P w0 W0 Z H S' a o.dst w (execOp a.eval o):=by
 unfold U1 at e;split at e;case h_2=>cases e
 rename_i x y i hps hi;cases hc:decide (i.ty=.arr 2 (.int .i64)) with
 |false=>rw[hc] at e;cases e
 |true=>
 rw[hc] at e;simp only[ab] at e;have rH:i.ty=.arr 2 (.int .i64):=by simpa using hc
 split at e;case h_2=>cases e
 rename_i m n m' k hx hy;simp only[ah,aF,cl] at e;subst e;obtain⟨cs,h1,h2,_⟩:=qi h hx;obtain⟨kS,h3,h4,_⟩:=qi h hy;have Pf:=lg h1 h2;have hy':=lg h3 h4;obtain⟨lT,hu,Tw⟩:=kV hT hi;obtain⟨et,hd,het,_⟩:=auN hu rH;rw[Tw] at hd;obtain⟨_,inf,z,i1,i2,_,_,_,i3,i4⟩:=lT;rw[Tw] at i1;obtain⟨aDa,j1,j2,_⟩:=xg hT het;have hzc:z.cells=#[.int .i64 0,.int .i64 0]:=by rw[rH] at i4;simp only[a6,isAgg,dy] at i4;rw[i4];simp[zc,Value.cells]
 have hci:∀ n:Int,(Value.int .i64 n).cells=#[.int .i64 n]:=λ_=>rfl;have aDf:ps=#[(0,x),(1,y)]:=by cases ps;simpa using hps
 have run:∀ w2,(execOp a.eval o).run P w2=.ok (.value (.agg #[.int .i64 n,.int .i64 k])) w2:=λw2=>by simp[execOp,ho,aDf,Pf,hy',Instr.build,zeroValue,typeInfo,i1,i3,a7 hd,sizeOf,j1,j2,hzc,Ty.size,Instr.fill,hci,Result.andThen]
 refine hZ h run ⟨[.int .i64 n,.int .i64 k],by simp[a6,isAgg],?_⟩;simp only[M,Md.eY,cl,K];exact⟨[[.int .i64 n],[.int .i64 k]],rfl,rfl,rfl,λj h1 h2=>by
  match j,h1 with
  |0,_=>rfl
  |1,_=>rfl⟩
theorem ael (hT:kh P Θ=true) (h:cY σ w0 W0 Z H S a w) {o:Oper} {T:TypeId} {ps:Array (Nat×Operand)} (ho:o.op=.build T ps) (e:(match U0 Θ S o.dst T ps.toList with
  |some r=>some r
  |none=>U1 Θ S o.dst T ps.toList)=some (true,S')):Df P w0 W0 Z H S' a o.dst w (execOp a.eval o):=by
 split at e
 ·rename_i r hr
  injection e with e
  subst e
  exact aqg hT h ho hr
 ·exact aoD hT h ho e
end Go.Pv
namespace Go.Pv
open List Int IntKind
variable {P:Program} {w w':World} {A A' Wr:Nat->Prop} {H:Nat->Value} {tm N':Nat->Value} {S S' S1:St} {σ eo lU:Nat->Option Nat} {w0:World} {W0 Z:Nat->Prop} {a:Act} {own:Nat->Prop} {v:Value} {Θ:kR} {dst:Option Nat}
theorem aqs {t:Ty} (h:isAgg t=false):t.size=1:=by cases t<;>simp[isAgg] at h<;>rfl
theorem aqt (hT:kh P Θ=true) (h:cY σ w0 W0 Z H S a w) {o:Oper} {T:TypeId} {x:Operand} {f:Nat} (ho:o.op=.field T x f) (e:afg Θ S o.dst T x f=some (true,S')):x7 P w0 W0 Z H S' a o.dst w (execOp a.eval o):=by
 unfold afg at e;split at e;case h_2=>cases e
 rename_i b ex i pL hi;cases hc:(Nat.blt f i.fs.length&&decide (i.ty=b.t)) with
 |false=>rw[hc] at e;cases e
 |true=>
  rw[hc] at e;simp only[ab] at e;simp only[ai,au] at hc;obtain⟨gC,rH⟩:=hc;have gC:f<i.fs.length:=jC (bJ gC);split at e;case h_2=>cases e
  rename_i j;split at e;case h_2=>cases e
  rename_i c hg;simp only[St.pJ,ah] at pL;have hh:=h.holds j;rw[pL] at hh;obtain⟨cs,hm,hM⟩:=hh;obtain⟨_,hu,hT0⟩:=kV hT hi;have hp:=Ac f i.fs.length;obtain⟨pa,pb,hpp⟩:=Vj (ap6 gC) hp hg;obtain⟨fs,f1,f2,f3,_⟩:=Ii hu (rH.trans hpp);rw[hT0] at f1;have XZ:fs.toList.length=i.fs.length:=by rw[←f2,aY]
  have hfs:fs.size=i.fs.length:=(by rw[←XZ,bQ]);obtain⟨fd,hfd⟩:∃ fd,fs[f]?=some fd:=⟨_,db (by omega)⟩;obtain⟨t,t1,t2,t3,_⟩:=Ab f3 f fd (by rw[bI];exact hfd);rw[aW,hfs,rH] at t1 t3;have hct:c.t=t:=(by have:=Nu _ hp hg;rw[t1] at this;injection this with this;exact this.symm);subst hct;obtain⟨hlen,auR⟩:=rB _ hM;have Tn:=qR _ hp hg;have afF:cz w (JI f i.fs.length) b.t cs=some ((cs.drop (cA (JI f i.fs.length) b.t)).take c.t.size):=rC _ hp hg hlen;obtain⟨v,hv,iu⟩:∃ v,a6 c.t v ((cs.drop (cA (JI f i.fs.length) b.t)).take c.t.size)/\∀ w2,Ext w w2->(execOp a.eval o).run P w2=.ok (.value v) w2:=by
   have A3:a.eval (.tmp j)=.agg cs.toArray:=(by unfold a6 at hm;rw[ay (by rw[hpp];rfl)] at hm;exact hm);have hag:=akn hT t2;obtain⟨inf,s1,s2,_⟩:=xg hT t2;have hso:∀ w2,(sizeOf fd.type).run P w2=.ok c.t.size w2:=λw2=>(by simp[sizeOf,typeInfo,s1,s2]);cases hca:isAgg c.t with
   |true=>
   refine⟨.agg (cs.toArray.extract (cA (JI f i.fs.length) b.t) (cA (JI f i.fs.length) b.t+c.t.size)),?_,λw2 _=>?_⟩
   ·unfold a6;rw[ay hca];congr 1;apply hY.1;rw[Array.toList_extract,b5,b5,List.extract_eq_drop_take'];rw[iE,iK]
   rw[hca] at hag;have aqu:(part fd.type cs.toArray fd.offset).run P w2=.ok (.agg (cs.toArray.extract (cA (JI f i.fs.length) b.t) (cA (JI f i.fs.length) b.t+c.t.size))) w2:=(by unfold part;simp only[aZ,hag,aV,dy,hso,t3];rfl);simp only[execOp,ho,A3,Instr.field,aZ,a7 f1,aV,hfd,asAgg,cW,aqu]
   |false=>
   have h1:=aqs hca;have ako:cA (JI f i.fs.length) b.t<cs.length:=(by omega);refine⟨cs[cA (JI f i.fs.length) b.t],?_,λw2 _=>?_⟩
   ·unfold a6;rw[ar (by rw[hca];exact lR),h1,aT ako,n0,tP]
   rw[hca] at hag;have aqu:(part fd.type cs.toArray fd.offset).run P w2=.ok (cs[cA (JI f i.fs.length) b.t]) w2:=(by unfold part;simp only[aZ,hag,aV,ar lR,t3];rw[qv,aN ako];rfl);simp only[execOp,ho,A3,Instr.field,aZ,a7 f1,aV,hfd,asAgg,cW,aqu]
  have hvalid:=x8 _ hp hg;cases hk:c.m.eY with
 |true=>
 rw[hk] at e;simp only[ab] at e;split at e;case h_2=>cases e
 simp only[ah,aF,cl] at e;subst e;obtain⟨kS,kH,k1,k2,k3⟩:=focus _ hM (λq hq=>by simp at hq) hvalid hg
 rw[afF] at k1;injection k1 with k1;subst k1;exact jd h iu ⟨_,hv,tS _ (tD _ hk k3)⟩
 |false=>
 rw[hk] at e;simp only[ae] at e;split at e;case h_2=>cases e
 rename_i c' Zh;simp only[ah,aF,cl] at e;subst e;obtain⟨r,ZR,q1,q2,q3⟩:=pZ Zh;rw[pL] at q1;injection q1 with q1 q1';subst q1 q1';exact jd h iu ⟨b,cs,_,⟨⟨ex,pL,rL q2⟩,hvalid,⟨c,hg,rfl⟩,hm⟩,afF,hv⟩
theorem Zm (h:cY σ w0 W0 Z H S a w):∀ {xs:List Operand} {l:List Cap},aaE S xs=some l->xs.length=l.length/\∀ (j:Nat) (c:Cap),l[j]?=some c->∃ u,(xs.map a.eval)[j]?=some u/\Ie w (Av σ Z) (gM a) S c u
 |[],l,e=>by simp only[aaE,ah] at e;subst e;exact⟨rfl,λj c hj=>by simp at hj⟩
 |x::xs,l,e=>by
  simp only[aaE] at e;split at e;case h_2=>cases e
  rename_i c l2 hc hl;simp only[ah] at e;subst e;obtain⟨h1,h2⟩:=Zm h hl;refine⟨by simp[h1],λj c' hj=>?_⟩;cases j with
  |succ j=>simpa using h2 j c' (by simpa using hj)
  |zero=>
  simp only[aD,ah] at hj;subst hj;refine⟨a.eval x,rfl,?_⟩;unfold awU at hc;split at hc;case h_2=>cases hc
  rename_i i;have hh:=h.holds i;split at hc
  ·rename_i t T tag me y ex nI;injection hc with hc;subst hc;rw[nI] at hh;obtain⟨cs,h1,h2⟩:=hh;exact⟨_,cs,cs,⟨⟨ex,nI,λq _ s r e=>by cases q<;>simp at e⟩,trivial,⟨_,rfl,rfl⟩,h1⟩,rfl,h1⟩
  ·rename_i t y ex nI;injection hc with hc;subst hc;rw[nI] at hh;obtain⟨cs,h1,h2⟩:=hh;have h1':cs=[gM a i]:=by simpa[a6,isAgg] using h1
   subst h1';simp only[M] at h2;rcases h2 with⟨_,hx,_⟩ |⟨_,h2⟩ |⟨T,tag,me,g,cur,hx,_⟩
   ·simp[Md.eY] at hx
   ·exact h2
   cases hx
  ·rename_i t s p nI;injection hc with hc;subst hc;rw[nI] at hh;exact hh
  cases hc
theorem ahJ (h:cY σ w0 W0 Z H S a w) {o:Oper} {f:FuncId} {first kn:Array Operand} (ho:o.op=.makeFunc (.func f) first kn) (e:Tm S o.dst f first.toList kn.toList=some (true,S')):x7 P w0 W0 Z H S' a o.dst w (execOp a.eval o):=by
 unfold Tm at e;split at e;case h_2=>cases e
 rename_i l hf hl;split at e;case h_2=>cases e
 rename_i d hd;cases hr:AV.refs d (.EL f l) with
 |true=>rw[hr] at e;cases e
 |false=>
 rw[hr] at e;simp only[ae,ah,aF,cl] at e;subst e;obtain⟨h1,h2⟩:=Zm h hl;have hfe:first=#[]:=by apply hY.1;rw[hf]
 refine jd (v:=.func (.func f) #[] (kn.map a.eval)) h (λw2 _=>by simp[execOp,ho,Instr.makeFunc,hfe]) ⟨kn.toList.map a.eval,?_,by rw[aY,h1],h2⟩;congr 1;apply hY.1;simp
theorem ahK (h:cY σ w0 W0 Z H S a w) {o:Oper} {x:Operand} (ho:o.op=.move x) (e:Nb Θ S o.dst o.type x=some (true,S')):Df P w0 W0 Z H S' a o.dst w (execOp a.eval o):=by
 by_cases hnt:∃ l,S.pJ Θ o.type x=some (.QU l)
 rotate_left
 ·exact auO h ho (λl hl=>hnt ⟨l,hl⟩) e
 obtain⟨l,hl⟩:=hnt
 unfold Nb at e
 rw[hl] at e
 simp only at e
 split at e
 case h_2=>cases e
 rename_i d i hd
 cases hc:(Nat.beq d i|| !Nat.blt d S.length) with
 |true=>rw[hc] at e;cases e
 |false=>
  rw[hc] at e
  simp only[ae,ah,aF,cl] at e
  subst e
  have nI:S.at i=.QU l:=by simpa[St.pJ] using hl
  have hh:=h.holds i
  rw[nI] at hh
  obtain⟨vs,τ,h1,h2,h3⟩:=hh
  refine⟨gM a i,λw2=>by simp only[execOp,ho];rfl,?_⟩
  rw[hd]
  have hp:=h.Db i
  have hgo:=hp.amC (dst:=some d) (v:=gM a i) (av:=.QU l) (ow:=λg=>σ g=some i) (w':=w) (aM _) (λ_ _ _=>rfl) h.fr (λg hg=>⟨h.lt g i hg,.inl ⟨S.length,by rw[eC];exact aM _,by unfold Db;rw[ay hg]⟩⟩) (λd' hd' q1 q2=>?_)
  ·exact⟨_,hgo⟩
  ·refine⟨vs,τ,h1,h2,λj b hb=>?_⟩
   obtain⟨u,cs,u1,u2,u3⟩:=h3 j b hb
   refine⟨u,cs,u1,u2,b8 ⟨λ_ _ _=>rfl,λg hg hx=>?_⟩ _ (λ_ _ _=>rfl) (λg hg _=>⟨q1 g hg.1,hg.2⟩) (λ_ h=>h) u3⟩
   rcases q2 g hx with q |q
   ·exact amB.1 q
   ·exact .inl ⟨i,q⟩
theorem aqv (hT:kh P Θ=true) (h:cY σ w0 W0 Z H S a w) {hn:Hn} {o:Oper} (hq:quiet o.op=true) (e:ev Θ hn S o=some (true,S')):x7 P w0 W0 Z H S' a o.dst w (execOp a.eval o):=by
 unfold ev at e;split at e;case h_1 x ho=>exact(ahK h ho e).q
 case h_2 x ho=>exact aoA h ho e
 case h_3 c x y ho=>exact auP h ho e
 case h_4 T ho=>rw[ho] at hq;cases hq
 case h_5 T x ho=>rw[ho] at hq;cases hq
 case h_6 T ps ho=>exact(ael hT h ho e).q
 case h_7 T n ps ho=>rw[ho] at hq;cases hq
 case h_8 T x ho=>exact auQ hT h ho e
 case h_9 T x y ho=>rw[ho] at hq;cases hq
 case h_10 x ho=>exact ahv h ho e
 case h_11 T x f ho=>exact(Vk hT h ho e).q
 case h_12 T x f ho=>exact aqt hT h ho e
 case h_13 T x ix ho=>exact(Vl hT h ho e).q
 case h_14 T x ix ho=>exact ap2 hT h ho e
 case h_15 x j ho=>exact(abf h ho e).q
 case h_16 T x lo hi mx ho=>exact(ahy hT h ho e).q
 case h_17 T T' x ho=>exact ahr hT h ho e
 case h_18 op T x y p ho=>exact(ap1 hT h ho e).q
 case h_19 op T x ho=>exact aAE h ho e
 case h_20 T l c ho=>rw[ho] at hq;cases hq
 case h_21 f first kn ho=>exact ahJ h ho e
 case h_22 as ts ho=>exact(ap3 hT h ho e).q
 case h_27=>cases e
 all_goals (rename_i ho;rw[ho] at hq;cases hq)
def aky:Op->Bool
 | .extract ..=>true | .indexAddr ..=>true | .binOp ..=>true | .slice ..=>true | .move _=>true | .convert ..=>true | .fieldAddr ..=>true | .build ..=>true | .call { callee:=.builtin .len,.. }=>true |_=>false
theorem ayd (hT:kh P Θ=true) (h:cY σ w0 W0 Z H S a w) {hn:Hn} {o:Oper} (hq:aky o.op=true) (hq2:(match o.op with
 | .convert _ T' _=>(match Θ.find T' with
  |some i=>(match i.ty with
   | .int _=>true
   |_=>false)
  |none=>false)
 |_=>true)=true) (e:ev Θ hn S o=some (true,S')):Df P w0 W0 Z H S' a o.dst w (execOp a.eval o):=by
 unfold aky at hq
 split at hq
 ·rename_i x j ho
  unfold ev at e
  rw[ho] at e
  exact abf h ho e
 ·rename_i T x ix ho
  unfold ev at e
  rw[ho] at e
  exact Vl hT h ho e
 ·rename_i op T x y T' ho
  unfold ev at e
  rw[ho] at e
  exact ap1 hT h ho e
 ·rename_i T x lo hi mx ho
  unfold ev at e
  rw[ho] at e
  exact ahy hT h ho e
 ·rename_i x ho
  unfold ev at e
  rw[ho] at e
  exact ahK h ho e
 ·rename_i T T' x ho
  unfold ev at e
  rw[ho] at e
  rw[ho] at hq2
  exact aa4 hT h ho hq2 e
 ·rename_i T x f ho
  unfold ev at e
  rw[ho] at e
  exact Vk hT h ho e
 ·rename_i T ps ho
  unfold ev at e
  rw[ho] at e
  exact ael hT h ho e
 ·rename_i as ts ho
  unfold ev at e
  rw[ho] at e
  exact ap3 hT h ho e
 ·cases hq
def ahL:Op->Bool
 | .alloc _=>true | .box ..=>true | .buildSlice ..=>true | .makeSlice ..=>true | .makeMap ..=>true |o=>quiet o
theorem aqw (hT:kh P Θ=true) (h:cY σ w0 W0 Z H S a w) {hn:Hn} {o:Oper} (hq:ahL o.op=true) (e:ev Θ hn S o=some (true,S')):Vn P w0 W0 Z H S' a o.dst w (execOp a.eval o):=by
 cases hqq:quiet o.op with
 |true=>exact(aqv hT h hqq e).ZQ
 |false=>
 unfold ev at e;split at e;case h_4 T ho=>exact aqa hT h ho e
 case h_5 T x ho=>exact ax5 hT h ho e
 case h_7 T n ps ho=>exact adw hT h ho e
 case h_20 T l c ho=>exact afA hT h ho e
 case h_27=>cases e
 case h_9 T x y ho=>rw[ho] at hq;cases hq
 case h_23 as ts ho=>rw[ho] at hq;cases hq
 case h_24 T r ho=>exact akx h ho e
 case h_25 T x y ok ho=>rw[ho] at hq;cases hq
 case h_26 T x y z ho=>rw[ho] at hq;cases hq
 all_goals (rename_i ho;rw[ho] at hqq;cases hqq)
theorem ahM (h:cY σ w0 W0 Z H S a w) {S1:St} {T:TypeId} {y:Operand} {s:Sem Next} {dst:Option Nat} (g:adv P w0 W0 Z H S1 a dst w s) (hd:dst=none):adv P w0 W0 Z H (Nd Θ S S1 T y) a dst w s:=by
 subst hd;unfold Nd;split;case h_2=>exact g
 rename_i t0 s0 _;split;case h_2=>exact g
 rename_i t m xs hs hs1;cases hk:m.eY with
 |true=>exact g
 |false=>
 simp only[ae];obtain⟨w',v,h1,nF,h2⟩:=g;refine⟨w',v,h1,?_⟩;have hh:=h.holds s0;rw[hs] at hh;obtain⟨cs,hm,hM⟩:=hh;have xb:∃ A c,cs=[.slice A xs.length c]:=by
  simp only[M] at hM;rcases hM with⟨hn,_⟩ |⟨uH,_⟩ |⟨T',tag,me,A,c,_,rfl,_⟩
  ·simp at hn
  ·rw[hk] at uH;cases uH
  exact⟨A,c,rfl⟩
 have ha:a.put none v=a:=rfl;rw[ha] at h2 ⊢;have h3:=h2.pure (dst:=some s0) (av:=.v ⟨.sl t,m,xs⟩ [[]]) (v:=gM a s0) ⟨cs,hm,by
  simp only[M]
  exact .inl ⟨by simp,hk,xb⟩⟩
 rw[Ik] at h3;have he:S1.put (some s0) (.v ⟨.sl t,m,xs⟩ [[]])=S1.set s0 (.v ⟨.sl t,m,xs⟩ [[]]):=by simp only[St.put,hs1];rfl
 rw[he] at h3;exact⟨_,h3⟩
theorem aAU (hT:kh P Θ=true) (h:cY σ w0 W0 Z H S a w) {hn:Hn} {o:Oper} (e:ev Θ hn S o=some (true,S')):adv P w0 W0 Z H S' a o.dst w (execOp a.eval o):=by
 cases hq:ahL o.op with
 |true=>exact(aqw hT h hq e).goes
 |false=>
 unfold ev at e;split at e;case h_9 T x y ho=>
  split at e
  ·rename_i hd
   split at e
   ·rename_i g S1 he
    injection e with e
    injection e with e1 e2
    subst e1 e2
    exact ahM h (aqd hT h ho hd he) hd
   ·cases e
  ·cases e
 case h_23 as ts ho=>
  split at e
  ·rename_i r hr
   injection e with e
   subst e
   exact aoy hT h ho hr
  ·exact akw hT h ho e
 case h_25 T x y ok ho=>exact(aoC hT h ho e).goes
 case h_26 T x y z ho=>
  split at e
  ·rename_i hd
   exact afE hT h ho hd e
  ·cases e
 case h_27=>cases e
 all_goals (rename_i ho;rw[ho] at hq;cases hq)
end Go.Pv
namespace Go.Pv
open List Int IntKind
variable {P:Program} {w w':World} {A A' Wr:Nat->Prop} {H:Nat->Value} {tm N':Nat->Value} {S S' S1:St} {σ eo lU:Nat->Option Nat} {w0:World} {W0 Z:Nat->Prop} {a:Act} {own:Nat->Prop} {v:Value} {Θ:kR} {dst:Option Nat}
def Own (σ:Nat->Option Nat) (g:Nat):Prop:=∃ i,σ g=some i
def Zn (w:World) (A:Nat->Prop) (H:Nat->Value):Arg->Value->(Nat->Prop)->Prop
 | .tv b,v,own=>∃ cs,a6 b.t v cs/\M w A H b.t b.m b.x cs own []
 | .fn f kn,v,_=>∃ vs:List Value,v=.func (.func f) #[] vs.toArray/\vs.length=kn.length/\∀ (j:Nat) (c:TV),kn[j]?=some c->∃ u,vs[j]?=some u/\K w A c.t c.x [u]
abbrev Gl:=Nat->Option Obj
structure In (Γ:Gl) (B:Nat->Prop) (H:Nat->Value) (w:World) (σ:Nat->Option Nat) (args:List Arg) (fe:List Value):Prop where
 len:fe.length=args.length
 lt:∀ g i,σ g=some i->i<args.length/\g<w.heap.size
 old:∀ g,B g->σ g=none/\g<w.heap.size
 env:∀ g o,Γ g=some o->σ g=none/\w.heap[g]?=some o
 ok:∀ (j:Nat) (a:Arg),args[j]?=some a->∃ v,fe[j]?=some v/\Zn w (Av σ B) H a v (λg=>σ g=some j)
def amI:List Value->Value
 |[u]=>u
 |vs=>.tuple vs.toArray
structure Out (B:Nat->Prop) (H:Nat->Value) (w w':World) (σ:Nat->Option Nat) (rt:iI) (v:Value):Prop where
 fr:Fr w (Own σ) w'
 res:∃ (nF:Nat->Option Nat) (vs:List Value),v=amI vs/\vs.length=rt.res.length/\(∀ g i,nF g=some i->(w.heap.size<=g∨Own σ g)/\g<w'.heap.size)/\
  (∀ (i:Nat) (b:TV),rt.res[i]?=some b->∃ u cs,vs[i]?=some u/\a6 b.t u cs/\M w' (Av nF B) H b.t b.m b.x cs (λg=>nF g=some i) [])/\
  ∀ c,rt.refs=[c]->∃ cs,M w' (Av nF B) H c.t c.m c.x cs (λg=>nF g=some rt.res.length) []
def ahN (P:Program) (f:FuncId) (fe:List Value) (w:World) (R:Value->World->Prop):Prop:=((callFunc f fe.toArray).run P w=.ok (.enter f fe.toArray) w/\Calls P f fe.toArray w λ| .returned v,w'=>R v w' |_,_=>False)∨∃ v w',(callFunc f fe.toArray).run P w=.ok (.value v) w'/\R v w'
theorem ahN.mono {f:FuncId} {fe:List Value} {R R':Value->World->Prop} (h:ahN P f fe w R) (hr:∀ v w',R v w'->R' v w'):ahN P f fe w R':=by
 rcases h with⟨h1,h2⟩ |⟨v,w',h1,h2⟩
 ·refine .inl ⟨h1,h2.mono λe w' he=>?_⟩;cases e<;>first |exact hr _ _ he |exact he
 exact .inr ⟨v,w',h1,hr _ _ h2⟩
def amJ (Γ:Gl) (P:Program) (f:FuncId) (run:List Arg->(iI->aa)->aa):Prop:=∀ (args:List Arg) (kf:iI->aa) (ret:iI) (w:World) (σ:Nat->Option Nat) (fe:List Value) (H:Nat->Value) (B:Nat->Prop),run args kf=some ret->In Γ B H w σ args fe-> ahN P f fe w λv w'=>∃ rt,kf rt=some ret/\Out B H w w' σ rt v
def Sound (Γ:Gl) (P:Program) (f:FuncId) (run:List Arg->(iI->aa)->aa):Prop:=amJ Γ P f run/\∀ as,ja (run as)
def aye (Γ:Gl) (P:Program) (O:va):Prop:=∀ f,Sound Γ P f (O.run f)
structure LM (Γ:Gl) (P:Program) (O:va) (w0:World) (W0:Nat->Prop):Prop where
 sd:aye Γ P O
 env:∀ g o,Γ g=some o->¬W0 g/\w0.heap[g]?=some o
theorem LM.det {Γ:Gl} {P:Program} {O:va} {w0:World} {W0:Nat->Prop} (h:LM Γ P O w0 W0):Lt O:=λf=>(h.sd f).2
variable {Γ:Gl}
theorem aqx {l:List Entry} (h:∀ e∈l,Sound Γ P e.f e.run):aye Γ P (va.of l):=by
 intro f;have key:∀ (l:List Entry) (e:Entry),entry l f=some e->e∈l/\e.f=f:=by
  intro l;induction l with
  |nil=>intro e h;cases h
  |cons e' r ih=>
  intro e h;simp only[entry] at h;cases hb:Nat.beq e'.f f with
  |true=>rw[hb] at h;injection h with h;subst h;exact⟨by simp,aw hb⟩
  |false=>rw[hb] at h;obtain⟨h1,h2⟩:=ih e h;exact⟨by simp[h1],h2⟩
 simp only[va.of];split
 ·rename_i e he;obtain⟨h1,h2⟩:=key l e he;rw[←h2];exact h e h1
 exact⟨λargs kf ret w σ fe H B hr=>(by cases hr),λ_=>ja.none⟩
theorem abg:∀ (t:Ty) {x:t.I} {cs:List Value},tT t=true->K w A t x cs->K w' A' t x cs
 | .int _,_,_,_,h=>h
 | .bool,_,_,_,h=>h
 | .str,_,_,_,h=>h
 | .unit,_,_,_,h=>h
 | .pair a b,x,cs,hf,h=>by simp only[tT,ai] at hf;simp only[K] at h ⊢;obtain⟨c0,c1,rfl,h0,h1⟩:=h;exact⟨c0,c1,rfl,abg a hf.1 h0,abg b hf.2 h1⟩
 | .arr n t,x,cs,hf,h=>by simp only[tT] at hf;simp only[K] at h ⊢;obtain⟨rX,rfl,hl,hx,hj⟩:=h;exact⟨rX,rfl,hl,hx,λj h1 h2=>abg t hf (hj j h1 h2)⟩
 | .mp,_,_,hf,_=>by simp[tT] at hf
theorem Bb:∀ (t:Ty) {m:Md} {x:t.I} {cs:List Value} {ow:Nat->Prop},uI t m=true->M w A H t m x cs ow []->M w A' H t m x cs ow []
 | .sl t,.o T tag me,xs,cs,ow,hs,h=>by
  simp only[uI] at hs;simp only[M] at h ⊢;rcases h with⟨hn,_⟩ |⟨hk,_⟩ |⟨T,tag,me,X,c,e1,e2,hc,ht,h⟩
  ·simp at hn
  ·simp[Md.eY] at hk
  injection e1 with e1 Vm LK;subst e1 Vm LK;refine .inr (.inr ⟨_,_,_,X,c,rfl,e2,hc,ht,?_⟩);rcases h with h |⟨g,cur,τ,h1,h2,h3,h4,h5,h6⟩
  ·exact .inl h
  exact .inr ⟨g,cur,τ,h1,h2,h3,h4,h5,λj hj=>Bb t hs (h6 j hj)⟩
 | .ptr t,.o T tag me,x,cs,ow,hs,h=>by
  simp only[uI] at hs;simp only[M] at h ⊢;rcases h with⟨hn,_⟩ |⟨hk,_⟩ |⟨T,tag,me,g,cur,e1,e2,ht,hg,hw,h⟩
  ·simp at hn
  ·simp[Md.eY] at hk
  injection e1 with e1 Vm LK;subst e1 Vm LK;exact .inr (.inr ⟨_,_,_,g,cur,rfl,e2,ht,hg,hw,Bb t hs h⟩)
 | .pair a b,.p ma mb,x,cs,ow,hs,h=>by
  simp only[uI,ai] at hs;simp only[M] at h ⊢;rcases h with⟨hn,_⟩ |⟨hk,h⟩ |⟨ma,mb,c0,c1,s,e1,e2,h0,h1⟩
  ·simp at hn
  ·simp only[K] at h;simp only[Md.eY,ai] at hk;obtain⟨c0,c1,e2,h0,h1⟩:=h;refine .inr (.inr ⟨ma,mb,c0,c1,λ_=>True,rfl,e2,Bb a hs.1 (KU hk.1 h0),Bb b hs.2 (KU hk.2 h1)⟩)
  injection e1 with e1 Vm;subst e1 Vm;exact .inr (.inr ⟨_,_,c0,c1,s,rfl,e2,Bb a hs.1 h0,Bb b hs.2 h1⟩)
 | .sl t,.k,xs,cs,ow,hs,h=>by simp[uI,tT] at hs
 | .sl t,.p _ _,xs,cs,ow,hs,h=>by simp[uI,tT] at hs
 | .ptr t,.k,xs,cs,ow,hs,h=>by simp[uI,tT] at hs
 | .ptr t,.p _ _,xs,cs,ow,hs,h=>by simp[uI,tT] at hs
 | .pair a b,.k,xs,cs,ow,hs,h=>by simp only[uI,ai] at hs;exact KU hs.1 (abg _ hs.2 (tD _ hs.1 h))
 | .pair a b,.o ..,xs,cs,ow,hs,h=>by simp[uI,Md.eY] at hs
 | .int k,m,x,cs,ow,hs,h=>by simp only[M,K] at h ⊢;exact h
 | .bool,m,x,cs,ow,hs,h=>by simp only[M,K] at h ⊢;exact h
 | .str,m,x,cs,ow,hs,h=>by simp only[M,K] at h ⊢;exact h
 | .unit,m,x,cs,ow,hs,h=>by simp only[M,K] at h ⊢;exact h
 | .arr n t,m,x,cs,ow,hs,h=>by have hs:(m.eY&&tT (.arr n t))=true:=(by cases m<;>exact hs);simp only[ai] at hs;exact KU hs.1 (abg _ hs.2 (tD _ hs.1 h))
 | .mp,m,x,cs,ow,hs,h=>by have hs:(m.eY&&tT .mp)=true:=(by cases m<;>exact hs);simp[tT] at hs
def Pk (σ:Nat->Option Nat) (n:Nat) (g:Nat):Prop:=∃ i,n<=i/\σ g=some i
theorem auW {t:Ty} {m:Md} {x:t.I} {cs:List Value} {s n:Nat} {ow:Nat->Prop} (hs:s<n) (ho:∀ g,ow g->σ g=some s) (h:M w (Av σ Z) H t m x cs ow []):K w (Pk σ n) t x cs:=
 M_K (λg _ hg=>by obtain⟨i,_,hi⟩:=hg;exact .inl ⟨i,hi⟩) t rfl (λg hg hx=>by
  obtain⟨i,hi,Ba⟩:=hx
  rw[ho g hg] at Ba
  injection Ba with Ba
  omega) h
theorem aqy (h:cY σ w0 W0 Z H S a w) {T:TypeId} {x:Operand} {av:AV} {b:TV} (ho:S.pJ Θ T x=some av) (e:S.QV av=some b): ∃ cs,a6 b.t (a.eval x) cs/\K w (Pk σ S.length) b.t b.x cs:=by
 have hh:=eH h ho;cases av with
 |v a0 ex=>
  cases ex with
  |cons _ _=>simp[St.QV] at e
  |nil=>
  simp only[St.QV,ah] at e;subst e;obtain⟨cs,h1,h2⟩:=hh;cases x with
  |tmp i=>simp only[St.pJ,ah] at ho;exact⟨cs,h1,auW (s:=i) (qs (by rw[ho];exact λe=>by cases e)) (λg hg=>by obtain⟨j,hj,hg⟩:=hg;injection hj with hj;subst hj;exact hg) h2⟩
  |const c=>exact⟨cs,h1,M_K (λg _ hg=>by obtain⟨i,_,hi⟩:=hg;exact .inl ⟨i,hi⟩) _ rfl (λg hg=>by obtain⟨j,hj,_⟩:=hg;cases hj) h2⟩
  |func f=>exact⟨cs,h1,M_K (λg _ hg=>by obtain⟨i,_,hi⟩:=hg;exact .inl ⟨i,hi⟩) _ rfl (λg hg=>by obtain⟨j,hj,_⟩:=hg;cases hj) h2⟩
  |global f=>exact⟨cs,h1,M_K (λg _ hg=>by obtain⟨i,_,hi⟩:=hg;exact .inl ⟨i,hi⟩) _ rfl (λg hg=>by obtain⟨j,hj,_⟩:=hg;cases hj) h2⟩
 |al t s p=>simp only[St.QV] at e;obtain⟨r,kI,cs,hr,hc,hm⟩:=hh;obtain⟨rfl,kH,k2,k3⟩:=np h hr hc e;obtain⟨ex0,hs0,_⟩:=hr.at_;exact⟨cs,hm,auW (s:=s) (qs (by rw[hs0];exact λe=>by cases e)) k2 k3⟩
 |cut t s p lo hi=>
  simp only[St.QV] at e;obtain⟨r,kI,t',X,n,c,hr,rfl,hc,hlo,hhi,hv⟩:=hh;cases hp:S.place s p with
  |none=>rw[hp] at e;cases e
  |some b'=>obtain⟨ht,kH,k2,k3⟩:=np h hr hc hp;obtain⟨bt,bm,bx⟩:=b';simp only at ht;subst ht;rw[hp] at e;simp only[ah] at e;subst e;obtain⟨ex0,hs0,_⟩:=hr.at_;have hK:=auW (s:=s) (n:=S.length) (qs (by rw[hs0];exact λe=>by cases e)) k2 k3;have hn:n=length bx:=(by simp only[K] at hK;obtain⟨_,_,e,_⟩:=hK;simp only[dW,fc,iJ] at e;exact e.2.1);subst hn;rw[hv];exact⟨_,by simp[a6,isAgg],amx hK hlo hhi⟩
 |_=>simp[St.QV] at e
theorem aqz {n:Nat}:cN w w (Av σ Z) (Pk σ n):=⟨λ_ _ _=>rfl,λg _ hg=>by obtain⟨i,_,hi⟩:=hg;exact .inl ⟨i,hi⟩⟩
theorem PG (h:cY σ w0 W0 Z H S a w):∀ {kn:List Cap} {l:List TV} {vs:List Value},Nk S kn=some l->vs.length=kn.length->(∀ (j:Nat) (c:Cap),kn[j]?=some c->∃ u,vs[j]?=some u/\Ie w (Av σ Z) (gM a) S c u)-> l.length=kn.length/\∀ (j:Nat) (c:TV),l[j]?=some c->∃ u,vs[j]?=some u/\K w (Pk σ S.length) c.t c.x [u]
 |[],l,vs,e,_,_=>by simp only[Nk,ah] at e;subst e;exact⟨rfl,λj c hj=>by simp at hj⟩
 |c::kn,l,vs,e,hl,hv=>by
  simp only[Nk] at e
  split at e
  case h_2=>cases e
  rename_i b l2 hb hl2
  simp only[ah] at e
  subst e
  match vs,hl with
  |u::vs,hl=>
   obtain⟨h1,h2⟩:=PG h (vs:=vs) hl2 (by simpa using hl) (λj c hj=>by simpa using hv (j+1) c (by simpa using hj))
   refine⟨by simp[h1],λj c' hj=>?_⟩
   cases j with
   |succ j=>simpa using h2 j c' (by simpa using hj)
   |zero=>
    simp only[aD,ah] at hj
    subst hj
    obtain⟨u',hu,hc⟩:=hv 0 c rfl
    simp only[aD,ah] at hu
    subst hu
    refine⟨u,rfl,?_⟩
    cases c with
    |kv b'=>
     simp only[adS,ah] at hb
     subst hb
     exact fA aqz _ hc
    |pl t s p=>
     simp only[adS] at hb
     split at hb
     case h_2=>cases hb
     rename_i b' hp
     simp only[ah] at hb
     subst hb
     obtain⟨r,kI,cs,hr,Da,hm⟩:=hc
     obtain⟨Rv,kH,k2,k3⟩:=np h hr Da hp
     obtain⟨ex0,hs0,_⟩:=hr.at_
     have hK:=auW (s:=s) (n:=S.length) (qs (by rw[hs0];exact λe=>by cases e)) k2 k3
     have:cs=[u]:=by simpa[a6,isAgg] using hm
     rw[this] at hK
     exact hK
theorem TA:∀ (xs:List Operand) (Ts:List TypeId) (ps:List Pass) (j:Nat) {S S1:St} {σ:Nat->Option Nat} {l:List (Option TV)},cY σ w0 W0 Z H S a w->vE Θ S xs Ts ps=some (l,S1)-> ∃ (eo:Nat->Option Nat) (ow:Nat->Prop) (τ:Nat->Nat),cY eo w0 W0 Z H S1 a w/\S1.length=S.length/\wb σ eo S.length ow/\l.length=xs.length/\(∀ g,ow g->j<=τ g/\τ g<j+l.length)/\ ((∀ p∈ps,p=.val)->∀ g,¬ow g)/\ ∀ (k:Nat) (b:TV),l[k]?=some (some b)->∃ x cs,xs[k]?=some x/\a6 b.t (a.eval x) cs/\M w (Av σ Z) H b.t b.m b.x cs (λg=>ow g/\τ g=j+k) []
 |[],Ts,ps,j,S,S1,σ,l,h,e=>by simp only[vE,ah,aF] at e;obtain⟨rfl,rfl⟩:=e;exact⟨σ,λ_=>False,λ_=>j,h,rfl,wb.none _ _,rfl,λ_ h=>h.elim,λ_ _ h=>h,λk b hk=>by simp at hk⟩
 |x::xs,[],ps,j,S,S1,σ,l,h,e=>by simp[vE] at e
 |x::xs,T::Ts,[],j,S,S1,σ,l,h,e=>by simp[vE] at e
 |x::xs,T::Ts,p::ps,j,S,S1,σ,l,h,e=>by
  simp only[vE] at e
  split at e
  ·split at e
   case h_2=>cases e
   rename_i r hr
   simp only[ah,aF] at e
   obtain⟨rfl,rfl⟩:=e
   obtain⟨eo,ow,τ,k1,k2,k3,k4,k5,k6,k7⟩:=TA xs Ts ps (j+1) h hr
   refine⟨eo,ow,τ,k1,k2,k3,by simp[k4],λg hg=>by have:=k5 g hg;simp only[ak];omega,λhp=>k6 (λp hp'=>hp p (by simp[hp'])),λk b hk=>?_⟩
   cases k with
   |zero=>simp at hk
   |succ k=>
    obtain⟨x',cs,q1,q2,q3⟩:=k7 k b (by simpa using hk)
    exact⟨x',cs,by simpa using q1,q2,by rw[show j+(k+1)=j+1+k from by omega];exact q3⟩
  rotate_left
  ·cases e
  ·unfold St.take at e
   split at e
   case h_2=>cases e
   rename_i b S2 hb
   split at hb
   case h_2=>cases hb
   rename_i av pL
   split at e
   case h_2=>cases e
   rename_i r hr
   simp only[ah,aF] at e
   obtain⟨rfl,rfl⟩:=e
   obtain⟨eo,cs,ow,h1,hm,hM,hk,hn⟩:=rM h pL hb
   obtain⟨lU,LF,τ,k1,k2,k3,k4,k5,k6,k7⟩:=TA xs Ts ps (j+1) h1 hr
   rw[hn] at k3
   have hap:∀ g,ow g->¬LF g:=λg hg=>hk.apart k3 hg
   let τ':Nat->Nat:=λg=>open Classical in if ow g then j else τ g
   refine⟨lU,λg=>ow g∨LF g,τ',k1,by omega,hk.trans k3,by simp[k4],λg hg=>?_,λhp=>(λhx:Pass.take=Pass.val=>nomatch hx) (hp .take (by simp)),λk b' uH=>?_⟩
   ·simp only[τ',ak]
    split
    ·omega
    ·rename_i hx
     have:=k5 g (hg.resolve_left hx)
     omega
   ·cases k with
    |zero=>
     simp only[aD,ah] at uH
     subst uH
     refine⟨x,cs,rfl,hm,b8 (cN.refl _ _) _ (λ_ _ _=>rfl) (λg hg _=>⟨.inl hg,by simp only[τ',ay hg,dM]⟩) (λ_ h=>h) hM⟩
    |succ k=>
     obtain⟨x',kS,q1,q2,q3⟩:=k7 k b' (by simpa using uH)
     refine⟨x',kS,by simpa using q1,q2,b8 ⟨λ_ _ _=>rfl,λg _ hg=>hk.Av.2 hg⟩ _ (λ_ _ _=>rfl) (λg hg _=>⟨.inr hg.1,?_⟩) (λ_ h=>h) q3⟩
     simp only[τ']
     rw[ar (λhx=>hap g hx hg.1),hg.2]
     omega
theorem D6 (h:cY σ w0 W0 Z H S a w):∀ (xs:List Operand) (Ts:List TypeId) (l:List (Option TV)) {as:List Arg},l.length=xs.length->reads Θ S xs Ts l=some as-> as.length=xs.length/\∀ (k:Nat) (r:Arg),as[k]?=some r->(∃ b,l[k]?=some (some b)/\r=.tv b)∨∃ x,xs[k]?=some x/\∀ H,Zn w (Pk σ S.length) H r (a.eval x) (λ_=>False)
 |[],Ts,l,as,_,e=>by simp only[reads,ah] at e;subst e;exact⟨rfl,λk r hk=>by simp at hk⟩
 |x::xs,[],l,as,hl,e=>by simp[reads] at e
 |x::xs,T::Ts,[],as,hl,e=>by simp at hl
 |x::xs,T::Ts,p::ps,as,hl,e=>by
  have hl':ps.length=xs.length:=(by simpa using hl);simp only[reads] at e;split at e
  ·rename_i b;split at e;case h_2=>cases e
   rename_i r hr;simp only[ah] at e;subst e;obtain⟨h1,h2⟩:=D6 h xs Ts ps hl' hr;refine⟨by simp[h1],λk r' hk=>?_⟩;cases k with
   |zero=>simp only[aD,ah] at hk;exact .inl ⟨b,rfl,hk.symm⟩
   |succ k=>simpa using h2 k r' (by simpa using hk)
  split at e
  ·rename_i f kn pL;split at e;case h_2=>cases e
   rename_i cs r xb hr;simp only[ah] at e;subst e;obtain⟨h1,h2⟩:=D6 h xs Ts ps hl' hr;refine⟨by simp[h1],λk r' hk=>?_⟩;cases k with
   |zero=>simp only[aD,ah] at hk;subst hk;obtain⟨vs,v1,v2,v3⟩:=eH h pL;obtain⟨c1,c2⟩:=PG h xb v2 v3;exact .inr ⟨x,rfl,λ_=>⟨vs,v1,by omega,c2⟩⟩
   |succ k=>simpa using h2 k r' (by simpa using hk)
  ·rename_i av _ pL;split at e;case h_2=>cases e
   rename_i b r hb hr;simp only[ah] at e;subst e;obtain⟨h1,h2⟩:=D6 h xs Ts ps hl' hr;refine⟨by simp[h1],λk r' hk=>?_⟩;cases k with
   |zero=>simp only[aD,ah] at hk;subst hk;obtain⟨cs,c1,c2⟩:=aqy h pL hb;exact .inr ⟨x,rfl,λ_=>⟨cs,c1,tS _ c2⟩⟩
   |succ k=>simpa using h2 k r' (by simpa using hk)
  cases e
theorem Im (h:cY σ w0 W0 Z H S a w):∀ (xs:List Operand) (Ts:List TypeId) (l:List (Option TV)) {as:List Arg},l.length=xs.length->reads Θ S xs Ts l=some as->x5 S xs l as=true-> ∀ (k:Nat) (r:Arg),as[k]?=some r->(∃ b,l[k]?=some (some b)/\r=.tv b)∨∃ x,xs[k]?=some x/\∀ H,Zn w (Av σ Z) H r (a.eval x) (λ_=>False)
 |[],Ts,l,as,_,e,_=>by simp only[reads,ah] at e;subst e;exact λk r hk=>by simp at hk
 |x::xs,[],l,as,hl,e,_=>by simp[reads] at e
 |x::xs,T::Ts,[],as,hl,e,_=>by simp at hl
 |x::xs,T::Ts,p::ps,as,hl,e,hf=>by
  have hl':ps.length=xs.length:=(by simpa using hl);have tR:=(D6 h (x::xs) (T::Ts) (p::ps) hl e).2;simp only[reads] at e;split at e
  ·rename_i b;split at e;case h_2=>cases e
   rename_i r hr;simp only[ah] at e;subst e;simp only[x5,Bool.true_or,aA] at hf;have h2:=Im h xs Ts ps hl' hr hf;intro k r' hk;cases k with
   |zero=>simp only[aD,ah] at hk;exact .inl ⟨b,rfl,hk.symm⟩
   |succ k=>simpa using h2 k r' (by simpa using hk)
  split at e
  ·rename_i f kn pL;split at e;case h_2=>cases e
   rename_i cs r xb hr;simp only[ah] at e;subst e;simp only[x5,eK,ai,List.isEmpty_iff] at hf;obtain⟨hf1,hf2⟩:=hf;have h2:=Im h xs Ts ps hl' hr hf2;intro k r' hk;cases k with
   |succ k=>simpa using h2 k r' (by simpa using hk)
   |zero=>
   simp only[aD,ah] at hk;subst hk;rcases tR 0 _ rfl with⟨b',hb',_⟩ |⟨x',Pf,AQ⟩
   ·simp at hb'
   simp only[aD,ah] at Pf;subst Pf;refine .inr ⟨x,rfl,λH'=>?_⟩;obtain⟨vs,v1,v2,v3⟩:=AQ H';exact⟨vs,v1,v2,λj c hj=>by rw[hf1] at hj;simp at hj⟩
  ·rename_i av _ pL;split at e;case h_2=>cases e
   rename_i b r hb hr;simp only[ah] at e;subst e;simp only[x5,eK,ai,bd] at hf;obtain⟨hf1,hf2⟩:=hf;have h2:=Im h xs Ts ps hl' hr hf2;intro k r' hk;cases k with
   |succ k=>simpa using h2 k r' (by simpa using hk)
   |zero=>
   simp only[aD,ah] at hk;subst hk;rcases hf1 with hs |hs
   ·rcases tR 0 _ rfl with⟨b',hb',_⟩ |⟨x',Pf,AQ⟩
    ·simp at hb'
    simp only[aD,ah] at Pf;subst Pf;refine .inr ⟨x,rfl,λH'=>?_⟩;obtain⟨cs,c1,c2⟩:=AQ H';exact⟨cs,c1,Bb _ hs c2⟩
   refine .inr ⟨x,rfl,λH'=>?_⟩;have hh:=eH h pL;cases x with
   |func f=>simp[Sx] at hs
   |global f=>simp[Sx] at hs
   |tmp i=>
   simp only[St.pJ,ah] at pL;subst pL;simp only[Sx] at hs;split at hs
   ·rename_i b0 hb0;rw[hb0] at hh hb;simp only[St.QV,ah] at hb;subst hb;obtain⟨cs,c1,c2⟩:=hh;exact⟨cs,c1,KU rfl (tD _ hs c2)⟩
   cases hs
   |const c=>
   have hk:∀ a0,av=.v a0 []->∀ H',Zn w (Av σ Z) H' (.tv (kTV b)) (a.eval (.const c)) λ_=>False:=λa0 e H'=>(by subst e;simp only[St.QV,ah] at hb;subst hb;have hh:=eH h pL;obtain⟨cs,c1,c2⟩:=hh;exact⟨cs,c1,KU rfl (M_K (λg _ hg=>hg) _ rfl (λg hg=>by obtain⟨j,hj,_⟩:=hg;cases hj) c2)⟩);simp only[St.pJ] at pL;cases hc:JH Θ T c with
   |none=>rw[hc] at pL;cases pL
   |some a0=>rw[hc] at pL;simp only[aP,ah] at pL;exact hk a0 pL.symm H'
  cases e
end Go.Pv
namespace Go.Pv
open List Int IntKind
variable {P:Program} {w w':World} {A A' B Wr:Nat->Prop} {H H':Nat->Value}
theorem F':∀ (t:Ty) {m:Md} {x:t.I} {cs:List Value} {ow:Nat->Prop} {hs:List Path},JM m=true->M w A H t m x cs ow hs->M w A H' t m x cs ow hs
 | .int _,_,_,_,_,_,_,h=>by simp only[M] at h ⊢;exact h
 | .bool,_,_,_,_,_,_,h=>by simp only[M] at h ⊢;exact h
 | .str,_,_,_,_,_,_,h=>by simp only[M] at h ⊢;exact h
 | .unit,_,_,_,_,_,_,h=>by simp only[M] at h ⊢;exact h
 | .arr _ _,_,_,_,_,_,_,h=>by simp only[M] at h ⊢;exact h
 | .mp,m,x,cs,ow,hs,hb,h=>by
  simp only[M] at h ⊢;rcases h with h |h |⟨T,tag,g,es,n,rfl,e2,ht,hg,hw,h⟩
  ·exact .inl h
  ·exact .inr (.inl h)
  simp only[JM,ai] at hb;cases tag with
  |some _=>cases hb.1
  |none=>exact .inr (.inr ⟨T,none,g,es,n,rfl,e2,λh hh=>(by cases hh),hg,hw,h⟩)
 | .sl t,m,xs,cs,ow,hs,hb,h=>by
  simp only[M] at h ⊢;rcases h with h |h |⟨T,tag,me,X,c,rfl,e2,hc,ht,h⟩
  ·exact .inl h
  ·exact .inr (.inl h)
  simp only[JM,ai] at hb;obtain⟨hb1,hb2⟩:=hb;cases tag with
  |some _=>cases hb1
  |none=>
  refine .inr (.inr ⟨T,none,me,X,c,rfl,e2,hc,λh hh=>(by cases hh),?_⟩);rcases h with h |⟨g,cur,τ,h1,h2,h3,h4,h5,h6⟩
  ·exact .inl h
  exact .inr ⟨g,cur,τ,h1,h2,h3,h4,h5,λj hj=>F' t hb2 (h6 j hj)⟩
 | .ptr t,m,x,cs,ow,hs,hb,h=>by
  simp only[M] at h ⊢;rcases h with h |h |⟨T,tag,me,g,cur,rfl,e2,ht,hg,hw,h⟩
  ·exact .inl h
  ·exact .inr (.inl h)
  simp only[JM,ai] at hb;obtain⟨hb1,hb2⟩:=hb;cases tag with
  |some _=>cases hb1
  |none=>exact .inr (.inr ⟨T,none,me,g,cur,rfl,e2,λh hh=>(by cases hh),hg,hw,F' t hb2 h⟩)
 | .pair a b,m,x,cs,ow,hs,hb,h=>by
  simp only[M] at h ⊢;rcases h with h |h |⟨ma,mb,c0,c1,s,rfl,e2,h0,h1⟩
  ·exact .inl h
  ·exact .inr (.inl h)
  simp only[JM,ai] at hb;exact .inr (.inr ⟨ma,mb,c0,c1,s,rfl,e2,F' a hb.1 h0,F' b hb.2 h1⟩)
theorem LN:∀ (t:Ty) {m:Md} {n:Nat},m.eY=true->(xO t m n).eY=true
 | .int _,m,n,h=>by simpa[xO] using h
 | .bool,m,n,h=>by simpa[xO] using h
 | .str,m,n,h=>by simpa[xO] using h
 | .unit,m,n,h=>by simpa[xO] using h
 | .arr _ _,m,n,h=>by simpa[xO] using h
 | .mp,m,n,h=>by cases m<;>simp_all [xO,Md.eY]
 | .sl t,m,n,h=>by cases m<;>simp_all [xO,Md.eY]
 | .ptr t,m,n,h=>by cases m<;>simp_all [xO,Md.eY]
 | .pair a b,m,n,h=>by
  cases m with
  |k=>simp[xO,Md.eY]
  |o=>simp[Md.eY] at h
  |p ma mb=>simp only[Md.eY,ai] at h;simp only[xO,Md.eY,ai];exact⟨LN a h.1,LN b h.2⟩
theorem D7:∀ (t:Ty) {m:Md} {x y:t.I},m.eY=true->rD t m x y=x
 | .int _,m,x,y,h=>rfl
 | .bool,m,x,y,h=>rfl
 | .str,m,x,y,h=>rfl
 | .unit,m,x,y,h=>rfl
 | .arr _ _,m,x,y,h=>rfl
 | .mp,m,x,y,h=>by cases m<;>simp_all [rD,Md.eY]
 | .sl t,m,x,y,h=>by cases m<;>simp_all [rD,Md.eY]
 | .ptr t,m,x,y,h=>by cases m<;>simp_all [rD,Md.eY]
 | .pair a b,m,x,y,h=>by
  cases m with
  |k=>simp[rD]
  |o=>simp[Md.eY] at h
  |p ma mb=>simp only[Md.eY,ai] at h;simp only[rD];rw[D7 a h.1,D7 b h.2]
theorem aqA:∀ (t:Ty) {m:Md} {x:t.I} {cs:List Value} {ow:Nat->Prop} {n:Nat},sJ t m=true->M w A H t m x cs ow []->(∀ (j:Nat) (u:Value),cs[j]?=some u->H' (n+j)=u)->M w A H' t (xO t m n) x cs ow []
 | .int _,_,_,_,_,_,_,h,_=>by simp only[M,xO] at h ⊢;exact h
 | .bool,_,_,_,_,_,_,h,_=>by simp only[M,xO] at h ⊢;exact h
 | .str,_,_,_,_,_,_,h,_=>by simp only[M,xO] at h ⊢;exact h
 | .unit,_,_,_,_,_,_,h,_=>by simp only[M,xO] at h ⊢;exact h
 | .arr _ _,_,_,_,_,_,_,h,_=>by simp only[M,xO] at h ⊢;exact h
 | .mp,m,x,cs,ow,n,hl,h,hH=>by
  simp only[M] at h ⊢;rcases h with⟨h,_⟩ |⟨hk,h⟩ |⟨T,tag,g,es,k,rfl,rfl,ht,hg,hw,h⟩
  ·simp at h
  ·exact .inr (.inl ⟨LN .mp hk,h⟩)
  refine .inr (.inr ⟨T,some n,g,es,k,rfl,rfl,λh hh=>?_,hg,hw,h⟩);injection hh with hh;subst hh;exact hH 0 _ rfl
 | .sl t,m,xs,cs,ow,n,hl,h,hH=>by
  simp only[M] at h ⊢;rcases h with⟨h,_⟩ |⟨hk,h⟩ |⟨T,tag,me,X,c,rfl,rfl,hc,ht,h⟩
  ·simp at h
  ·exact .inr (.inl ⟨LN (.sl t) hk,h⟩)
  simp only[sJ,ai] at hl;refine .inr (.inr ⟨T,some n,me,X,c,rfl,rfl,hc,λh hh=>?_,?_⟩)
  ·injection hh with hh;subst hh;exact hH 0 _ rfl
  rcases h with h |⟨g,cur,τ,h1,h2,h3,h4,h5,h6⟩
  ·exact .inl h
  exact .inr ⟨g,cur,τ,h1,h2,h3,h4,h5,λj hj=>F' t hl (h6 j hj)⟩
 | .ptr t,m,x,cs,ow,n,hl,h,hH=>by
  simp only[M] at h ⊢;rcases h with⟨h,_⟩ |⟨hk,h⟩ |⟨T,tag,me,g,cur,rfl,rfl,ht,hg,hw,h⟩
  ·simp at h
  ·exact .inr (.inl ⟨LN (.ptr t) hk,h⟩)
  simp only[sJ,ai] at hl;refine .inr (.inr ⟨T,some n,me,g,cur,rfl,rfl,λh hh=>?_,hg,hw,F' t hl h⟩);injection hh with hh;subst hh;exact hH 0 _ rfl
 | .pair a b,m,x,cs,ow,n,hl,h,hH=>by
  simp only[M] at h ⊢;rcases h with⟨h,_⟩ |⟨hk,h⟩ |⟨ma,mb,c0,c1,s,rfl,rfl,h0,h1⟩
  ·simp at h
  ·exact .inr (.inl ⟨LN (.pair a b) hk,h⟩)
  simp only[sJ,ai] at hl;have hl0:=(rB a h0).1;refine .inr (.inr ⟨_,_,c0,c1,s,rfl,rfl,aqA a hl.1 h0 (λj u hj=>hH j u ?_),aqA b hl.2 h1 (λj u hj=>?_)⟩)
  ·rw[dL (bL.1 hj).1];exact hj
  rw[fa];refine hH (a.size+j) u ?_;rw[cG (by omega),hl0,iK];exact hj
theorem Vw (fZ:cN w w' A A'):∀ (t:Ty) {m:Md} {x y:t.I} {cs kS:List Value} {ow kH:Nat->Prop} {n:Nat},sJ t m=true->(Pq t m=true∨cN w' w' B A')->M w A H t m x cs ow []->(∀ (j:Nat) (u:Value),cs[j]?=some u->H' (n+j)=u)-> M w' B H' t (xO t m n) y kS kH []->M w' A' H t m (rD t m x y) cs kH []
 | .int _,_,_,_,_,_,_,_,_,_,_,h,_,_=>by simp only[M,rD] at h ⊢;exact⟨h.1,fA fZ _ h.2⟩
 | .bool,_,_,_,_,_,_,_,_,_,_,h,_,_=>by simp only[M,rD] at h ⊢;exact⟨h.1,fA fZ _ h.2⟩
 | .str,_,_,_,_,_,_,_,_,_,_,h,_,_=>by simp only[M,rD] at h ⊢;exact⟨h.1,fA fZ _ h.2⟩
 | .unit,_,_,_,_,_,_,_,_,_,_,h,_,_=>by simp only[M,rD] at h ⊢;exact⟨h.1,fA fZ _ h.2⟩
 | .arr _ _,_,_,_,_,_,_,_,_,_,_,h,_,_=>by simp only[M,rD] at h ⊢;exact⟨h.1,fA fZ _ h.2⟩
 | .mp,m,x,y,cs,kS,ow,kH,n,hl,hB,h,hH,h'=>by
  simp only[M] at h;rcases h with⟨h,_⟩ |⟨hk,h⟩ |⟨T,tag,g,es,k,rfl,rfl,ht,hg,hw,h⟩
  ·simp at h
  ·rw[D7 _ hk];exact KU hk (fA fZ _ h)
  simp only[xO,M] at h';rcases h' with⟨h',_⟩ |⟨hk,_⟩ |⟨T2,ahx,g2,es2,k2,e1,e2,ht2,Ni,Nh,h'⟩
  ·simp at h'
  ·simp[Md.eY] at hk
  injection e1 with e1 Vm LK;subst e1 Vm;have q1:=ht2 n rfl;rw[show H' n=.map (some g) from hH 0 _ rfl] at q1;injection q1 with q1;injection q1 with q1;subst q1;simp only[M,rD];exact .inr (.inr ⟨T,tag,g,es2,k2,rfl,rfl,ht,Ni,Nh,h'⟩)
 | .sl t,m,xs,ys,cs,kS,ow,kH,n,hl,hB,h,hH,h'=>by
  simp only[M] at h;rcases h with⟨h,_⟩ |⟨hk,h⟩ |⟨T,tag,me,X,c,rfl,rfl,hc,ht,h⟩
  ·simp at h
  ·rw[D7 _ hk];exact KU hk (fA fZ _ h)
  simp only[sJ,ai] at hl;simp only[xO,M] at h';rcases h' with⟨h',_⟩ |⟨hk,_⟩ |⟨T2,ahx,me2,X2,c2,e1,e2,hc2,ht2,h'⟩
  ·simp at h'
  ·simp[Md.eY] at hk
  injection e1 with e1 Vm LK;subst e1 Vm LK;have q1:=ht2 n rfl;rw[show H' n=.slice X xs.length c from hH 0 _ rfl] at q1;injection q1 with q1 q2 q3;subst q1 q3;simp only[M,rD];refine .inr (.inr ⟨T,tag,me,X,c,rfl,by rw[q2],hc2,λh hh=>by rw[ht h hh,q2],?_⟩);rcases h' with h' |⟨g,cur,τ,k1,k2,k3,k4,k5,k6⟩
  ·exact .inl h'
  exact .inr ⟨g,cur,τ,k1,k2,k3,k4,k5,λj hj=>hB.elim (λhs=>Bb t hs (F' t hl (k6 j hj))) λfZ=>b8 fZ t (λ_ _ _=>rfl) (λ_ h _=>h) (λ_ h=>h) (F' t hl (k6 j hj))⟩
 | .ptr t,m,x,y,cs,kS,ow,kH,n,hl,hB,h,hH,h'=>by
  simp only[M] at h;rcases h with⟨h,_⟩ |⟨hk,h⟩ |⟨T,tag,me,g,cur,rfl,rfl,ht,hg,hw,h⟩
  ·simp at h
  ·rw[D7 _ hk];exact KU hk (fA fZ _ h)
  simp only[sJ,ai] at hl;simp only[xO,M] at h';rcases h' with⟨h',_⟩ |⟨hk,_⟩ |⟨T2,ahx,me2,g2,v8,e1,e2,ht2,Ni,Nh,h'⟩
  ·simp at h'
  ·simp[Md.eY] at hk
  injection e1 with e1 Vm LK;subst e1 Vm LK;have q1:=ht2 n rfl;rw[show H' n=.pointer (some ⟨g,0,none⟩) from hH 0 _ rfl] at q1;injection q1 with q1;injection q1 with q1;injection q1 with q1;subst q1;simp only[M,rD];exact .inr (.inr ⟨T,tag,me,g,v8,rfl,rfl,ht,Ni,Nh,hB.elim (λhs=>Bb t hs (F' t hl h')) λfZ=>b8 fZ t (λ_ _ _=>rfl) (λ_ h _=>h) (λ_ h=>h) (F' t hl h')⟩)
 | .pair a b,m,x,y,cs,kS,ow,kH,n,hl,hB,h,hH,h'=>by
  simp only[M] at h;rcases h with⟨h,_⟩ |⟨hk,h⟩ |⟨ma,mb,c0,c1,s,rfl,rfl,h0,h1⟩
  ·simp at h
  ·rw[D7 _ hk];exact KU hk (fA fZ _ h)
  simp only[sJ,ai] at hl;have hBa:Pq a ma=true∨cN w' w' B A':=hB.imp (λh=>by simp only[Pq,ai] at h;exact h.1) id;have hBb:Pq b mb=true∨cN w' w' B A':=hB.imp (λh=>by simp only[Pq,ai] at h;exact h.2) id;have hl0:=(rB a h0).1;have hH0:∀ (j:Nat) (u:Value),c0[j]?=some u->H' (n+j)=u:=λj u hj=>hH j u (by rw[dL (bL.1 hj).1];exact hj);have hH1:∀ (j:Nat) (u:Value),c1[j]?=some u->H' (n+a.size+j)=u:=λj u hj=>by rw[fa];refine hH (a.size+j) u ?_;rw[cG (by omega),hl0,iK];exact hj
  simp only[xO,M] at h';simp only[M,rD];rcases h' with⟨h',_⟩ |⟨hk,h'⟩ |⟨ma2,mb2,d0,d1,s2,e1,e2,k0,k1⟩
  ·simp at h'
  ·simp only[Md.eY,ai] at hk;simp only[K] at h';obtain⟨d0,d1,e2,k0,k1⟩:=h';exact .inr (.inr ⟨ma,mb,c0,c1,λ_=>True,rfl,rfl,Vw fZ a hl.1 hBa h0 hH0 (KU hk.1 k0),Vw fZ b hl.2 hBb h1 hH1 (KU hk.2 k1)⟩)
  injection e1 with e1 Vm;subst e1 Vm;exact .inr (.inr ⟨ma,mb,c0,c1,s2,rfl,rfl,Vw fZ a hl.1 hBa h0 hH0 k0,Vw fZ b hl.2 hBb h1 hH1 k1⟩)
end Go.Pv
namespace Go.Pv
open List Int IntKind
variable {P:Program} {w w':World} {A A' Wr:Nat->Prop} {H:Nat->Value} {tm N':Nat->Value} {S S' S1:St} {σ eo lU:Nat->Option Nat} {w0:World} {W0 Z:Nat->Prop} {a:Act} {own:Nat->Prop} {v:Value} {Θ:kR} {dst:Option Nat} {O:va} {hh:Hint} {Γ:Gl}
theorem Fr.trans {W1:Nat->Prop} (h:Fr w0 W0 w) (h1:Fr w W1 w') (hw:∀ g,W1 g->g<w0.heap.size->W0 g):Fr w0 W0 w':=by refine⟨h1.os.trans h.os,h1.tape.trans h.tape,h1.output.trans h.output,vI h.size h1.size,λg hg hn=>?_⟩;rw[h1.block g (by have:=h.size;omega) (λhx=>hn (hw g hx hg))];exact h.block g hg hn
theorem amK (hT:kh P hh.tab=true) (hO:LM Γ P O w0 W0) (h:cY σ w0 W0 Z H S a w) {o:Oper} {f:FuncId} {cal:Option Nat} {as:List Operand} {ts:List TypeId} {K:St->aa} {ret:iI} {Vx:List Value}
  (aDg:(cal=none/\Vx=[])∨∃ i,cal=some i/\gM a i=.func (.func f) #[] Vx.toArray) (e:xN hh O o f cal as ts S K=some ret):
  ahN P f (as.map a.eval++Vx) w λv w'=>∃ S',K S'=some ret/\Rel w0 W0 Z H S' (a.put o.dst v) w'/\((∀ p∈O.sig f,p=.val)->Ext w w'):=by
 unfold xN at e
 split at e
 case h_2=>cases e
 rename_i l S1 hl
 split at e
 case h_2=>cases e
 rename_i args cs aem xb
 obtain⟨eo,ow,τ,t1,t2,t3,t4,t5,t6,t7⟩:=TA as ts (O.sig f) 0 h hl
 obtain⟨r1,r2⟩:=D6 t1 as ts l t4 aem
 -- the captured values
 have aoE:cs.length=Vx.length/\∀ (j:Nat) (c:TV),cs[j]?=some c->amn c=true/\∃ u,Vx[j]?=some u/\Go.Pv.K w (Pk eo S1.length) c.t c.x [u]:=by
  rcases aDg with⟨rfl,rfl⟩ |⟨i,rfl,hv⟩
  ·simp only[Pp,ah] at xb
   subst xb
   exact⟨rfl,λj c hj=>by simp at hj⟩
  ·simp only[Pp] at xb
   split at xb
   case h_2=>cases xb
   rename_i f' kn nI
   cases hb:Nat.beq f' f with
   |false=>rw[hb] at xb;cases xb
   |true=>
    rw[hb] at xb
    simp only[ab] at xb
    have hold:=t1.holds i
    rw[nI] at hold
    obtain⟨vs,v1,v2,v3⟩:=hold
    rw[hv] at v1
    injection v1 with _ _ v1
    have hvs:Vx=vs:=by
     have:=br Array.toList v1
     simpa using this
    subst hvs
    split at xb
    case h_2=>cases xb
    rename_i l' hl'
    cases hp:l'.all amn with
    |false=>rw[hp] at xb;cases xb
    |true=>
     rw[hp] at xb
     simp only[ab,ah] at xb
     subst xb
     obtain⟨c1,c2⟩:=PG t1 hl' v2 v3
     exact⟨by omega,λj c hj=>⟨aJ.1 hp c (da hj),c2 j c hj⟩⟩
 -- the callee's arguments
 let TB:Nat->Option Nat:=λg=>open Classical in if ow g then some (τ g) else none
 have TC:∀ g i,TB g=some i↔ow g/\τ g=i:=λg i=>by
  simp only[TB]
  split
  ·rename_i hx;exact⟨λhg=>⟨hx,by injection hg⟩,λhg=>by rw[hg.2]⟩
  ·rename_i hx;exact⟨λhg=>(by cases hg),λhg=>absurd hg.1 hx⟩
 have Ry:∀ g,Own TB g↔ow g:=λg=>⟨λ⟨i,hi⟩=>((TC g i).1 hi).1,λhg=>⟨τ g,(TC g _).2 ⟨hg,rfl⟩⟩⟩
 have hpk:∀ g,ow g->Pk eo S1.length g:=λg hg=>by rw[t2];exact t3.now g hg
 obtain⟨OW,Vy⟩:∃ OW,OW=(cs.isEmpty&&x5 S1 as l args):=⟨_,rfl⟩
 let B:Nat->Prop:=λg=>OW=true/\Av σ Z g/\ ¬ow g
 have akz:cN w w (Av σ Z) (Av TB B):=⟨λ_ _ _=>rfl,λg _ hg=>by
  rcases hg with hg |hg
  ·obtain⟨i,_,hi⟩:=t3.was g ((Ry g).1 hg)
   exact .inl ⟨i,hi⟩
  ·exact hg.2.1⟩
 have ayf:cN w w (Av eo Z) (Av TB B):=⟨λ_ _ _=>rfl,λg hl hg=>t3.Av.2 (akz.wr g hl hg)⟩
 have auX:OW=false->cN w w (Pk eo S1.length) (Av TB B):=λhn=>⟨λ_ _ _=>rfl,λg _ hg=>by
  rcases hg with hg |hg
  ·exact hpk g ((Ry g).1 hg)
  ·have h1:=hg.1;rw[hn] at h1;cases h1⟩
 have r3:=λhf:OW=true=>Im t1 as ts l t4 aem (by rw[hf] at Vy;exact(ai _ _▸Vy.symm).2)
 have lT:In Γ B H w TB (args++cs.map .tv) (as.map a.eval++Vx):=by
  refine⟨by simp[r1,aoE.1],λg i hg=>?_,λg hg=>⟨?_,?_⟩,λg o hg=>⟨?_,?_⟩,λj r hj=>?_⟩
  ·obtain⟨q1,q2⟩:=(TC g i).1 hg
   have:=(t5 g q1).2
   obtain⟨k,_,hk⟩:=t3.was g q1
   exact⟨by simp only[ax];omega,h.lt g k hk⟩
  ·cases hc:TB g with
   |none=>rfl
   |some i=>exact absurd ((TC g i).1 hc).1 hg.2.2
  ·rcases hg.2.1 with⟨i,hi⟩ |hz
   ·exact h.lt g i hi
   ·have:=(h.old g hz).2;have:=h.fr.size;omega
  ·cases hc:TB g with
   |none=>rfl
   |some i=>
    obtain⟨k,_,hk⟩:=t3.was g ((TC g i).1 hc).1
    obtain⟨e1,e2⟩:=hO.env g o hg
    rcases h.new g k hk with hx |hx
    ·have:=dh e2;omega
    ·exact absurd hx e1
  ·obtain⟨e1,e2⟩:=hO.env g o hg
   rw[h.fr.block g (dh e2) e1,e2]
  ·rcases gD j args.length with Oe |Oe
   ·rw[dL Oe] at hj
    rw[dL (by simp only[aY];omega),bO]
    rcases r2 j r hj with⟨b,hb,rfl⟩ |⟨x,hx,AQ⟩
    ·obtain⟨x,c,q1,q2,q3⟩:=t7 j b hb
     rw[q1]
     exact⟨_,rfl,c,q2,b8 akz _ (λ_ _ _=>rfl) (λg hg _=>(TC g j).2 ⟨hg.1,by rw[hg.2];omega⟩) (λ_ h=>h) q3⟩
    ·have fin:∀ {A0:Nat->Prop},cN w w A0 (Av TB B)->Zn w A0 H r (a.eval x) (λ_=>False)->Zn w (Av TB B) H r (a.eval x) (λg=>TB g=some j):=λfZ AQ=>by
      cases r with
      |tv b=>
       obtain⟨c,c1,c2⟩:=AQ
       exact⟨c,c1,b8 fZ _ (λ_ _ _=>rfl) (λ_ hg _=>hg.elim) (λ_ h=>h) c2⟩
      |fn f' kn=>
       obtain⟨vs,c1,c2,c3⟩:=AQ
       exact⟨vs,c1,c2,λk c hk=>by obtain⟨u,u1,u2⟩:=c3 k c hk;exact⟨u,u1,fA fZ _ u2⟩⟩
     cases hfn:OW with
     |false=>
      rw[hx]
      exact⟨_,rfl,fin (auX hfn) (AQ H)⟩
     |true=>
      rcases r3 hfn j r hj with⟨b,hb,rfl⟩ |⟨x',Pf,ayg⟩
      ·obtain⟨x,c,q1,q2,q3⟩:=t7 j b hb
       rw[q1]
       exact⟨_,rfl,c,q2,b8 akz _ (λ_ _ _=>rfl) (λg hg _=>(TC g j).2 ⟨hg.1,by rw[hg.2];omega⟩) (λ_ h=>h) q3⟩
      ·rw[hx] at Pf
       injection Pf with Pf
       subst Pf
       rw[hx]
       exact⟨_,rfl,fin ayf (ayg H)⟩
   ·rw[cG Oe,bO] at hj
    cases hc:cs[j - args.length]? with
    |none=>rw[hc] at hj;cases hj
    |some c=>
     rw[hc] at hj
     injection hj with hj
     subst hj
     obtain⟨u0,u,u1,u2⟩:=aoE.2 _ c hc
     refine⟨u,?_,?_⟩
     ·rw[cG (by simp only[aY];omega)]
      simpa[r1] using u1
     ·have hfn:OW=false:=by
       cases hf:OW with
       |false=>rfl
       |true=>
        rw[hf] at Vy
        cases cs with
        |nil=>simp at hc
        |cons _ _=>simp at Vy
      have hK:=fA (auX hfn) _ u2
      obtain⟨ct,cm,cx⟩:=c
      unfold amn at u0
      split at u0
      ·rename_i t ht
       simp only at ht u0 hK
       subst ht
       exact⟨[u],by simp[a6,isAgg],KU u0 hK⟩
      ·cases u0
 refine((hO.sd f).1 _ _ ret w TB _ H B e lT).mono λv w' hv=>?_
 obtain⟨rt,X5,adx⟩:=hv
 split at X5
 case h_2=>cases X5
 cases aqB:(rt.res.all (λd=>uI d.t d.m)||(cs.isEmpty&&x5 S1 as l args)) with
 |false=>rw[aqB] at X5;cases X5
 |true=>
 rw[aqB] at X5
 simp only[ab] at X5
 rw[←Vy,bd] at aqB
 refine⟨_,X5,?_,λtR g hg=>adx.fr.block g hg (λhx=>t6 tR g ((Ry g).1 hx))⟩
 -- behind the call
 obtain⟨nF,vs,q1,q2,q3,q4,_⟩:=adx.res
 let n:=S1.length
 let Pg:Nat->Option Nat:=λg=>match nF g with
  |some i=>some (S1.length+i)
  |none=>open Classical in if ow g then none else eo g
 have ady:∀ g i,Pg g=some i->(∃ k,nF g=some k/\i=S1.length+k)∨(nF g=none/\ ¬ow g/\eo g=some i):=λg i hg=>by
  simp only[Pg] at hg
  split at hg
  ·rename_i k hk
   injection hg with hg
   exact .inl ⟨k,hk,hg.symm⟩
  ·rename_i hk
   split at hg
   ·cases hg
   ·exact .inr ⟨hk,by assumption,hg⟩
 have aen:∀ g k,nF g=some k->Pg g=some (S1.length+k):=λg k hk=>by simp only[Pg,hk]
 have amL:∀ g i,nF g=none->¬ow g->eo g=some i->Pg g=some i:=λg i h1 h2 h3=>by simp only[Pg,h1,ar h2,h3]
 have SE:∀ g,g<w.heap.size->¬ow g->w'.heap[g]?=w.heap[g]?:=λg hg hn=>adx.fr.block g hg (λhx=>hn ((Ry g).1 hx))
 have abh:∀ g,g<w.heap.size->∀ k,nF g=some k->ow g:=λg hg k hk=>by
  rcases(q3 g k hk).1 with hx |hx
  ·omega
  ·exact(Ry g).1 hx
 have fZ:cN w w' (Av eo Z) (Av Pg Z):=⟨λg hn hg=>SE g hg (λhx=>hn (by obtain⟨i,_,hi⟩:=hpk g hx;exact .inl ⟨i,hi⟩)),λg hg hx=>by
  rcases hx with⟨i,hx⟩ |hx
  ·rcases ady g i hx with⟨k,hk,_⟩ |⟨_,_,hk⟩
   ·obtain⟨i,_,hi⟩:=hpk g (abh g hg k hk)
    exact .inl ⟨i,hi⟩
   ·exact .inl ⟨i,hk⟩
  ·exact .inr hx⟩
 have X7:∀ g,ow g->∀ i,eo g=some i->S1.length<=i:=λg hg i hi=>by
  obtain⟨j,hj,M8⟩:=hpk g hg
  rw[hi] at M8
  injection M8 with M8
  omega
 have hR:cY Pg w0 W0 Z H S1 a w':=by
  refine⟨t1.len,t1.defers,t1.fr.trans adx.fr (λg hg hl=>?_),λg i hg=>?_,λg i hg=>?_,λg hg=>⟨?_,(t1.old g hg).2⟩,λi=>?_⟩
  ·obtain⟨i,_,hi⟩:=hpk g ((Ry g).1 hg)
   rcases t1.new g i hi with hx |hx
   ·omega
   ·exact hx
  ·rcases ady g i hg with⟨k,hk,_⟩ |⟨_,_,hk⟩
   ·rcases(q3 g k hk).1 with hx |hx
    ·have:=t1.fr.size;exact .inl (by omega)
    ·obtain⟨i,_,hi⟩:=hpk g ((Ry g).1 hx)
     exact t1.new g i hi
   ·exact t1.new g i hk
  ·rcases ady g i hg with⟨k,hk,_⟩ |⟨_,_,hk⟩
   ·exact(q3 g k hk).2
   ·have:=t1.lt g i hk;have:=adx.fr.size;omega
  ·obtain⟨z1,z2⟩:=t1.old g hg
   have Rx: ¬ow g:=λhx=>by obtain⟨i,_,hi⟩:=hpk g hx;rw[z1] at hi;cases hi
   have:nF g=none:=by
    cases hk:nF g with
    |none=>rfl
    |some k=>exact absurd (abh g (by have:=t1.fr.size;omega) k hk) Rx
   simp only[Pg,this,ar Rx,z1]
  ·by_cases hil:i<S1.length
   ·refine(t1.holds i).kept fZ (λg hg hl=>?_) (λs hs=>?_)
    ·have Rx: ¬ow g:=λhx=>by have:=X7 g hx i hg;omega
     refine⟨SE g hl Rx,amL g i ?_ Rx hg⟩
     cases hk:nF g with
     |none=>rfl
     |some k=>exact absurd (abh g hl k hk) Rx
    ·by_cases ZS:s<S1.length
     ·exact⟨λ_ _ h=>h,rfl,_,t1.holds s,λg hg hl=>SE g hl (λhx=>by have:=X7 g hx s hg;omega)⟩
     ·have hd:S1.at s=.dead:=ca λhx=>ZS (qs hx)
      exact⟨λ_ _ h=>h,rfl,λ_=>False,by rw[hd];trivial,λ_ h=>h.elim⟩
   ·have hd:S1.at i=.dead:=ca λhx=>hil (qs hx)
    rw[hd]
    trivial
 refine⟨_,hR.amC (ow:=λg=>∃ k,nF g=some k) (aM _) (λ_ _ _=>rfl) hR.fr (λg ⟨k,hk⟩=>⟨(q3 g k hk).2,.inl ⟨S1.length+k,by omega,aen g k hk⟩⟩) λd _ g1 g2=>?_⟩
 -- the results
 have ayh:OW=true->cN w' w' (Av nF B) (Av (uJ Pg o.dst λg=>∃ k,nF g=some k) Z):=λhfn=>⟨λ_ _ _=>rfl,λg _ hg=>by
  rcases g2 g hg with (⟨i,hi⟩ |hz) |hx
  ·rcases ady g i hi with⟨k,hk,_⟩ |⟨_,Rx,hk⟩
   ·exact .inl ⟨k,hk⟩
   ·exact .inr ⟨hfn,t3.Av.1 (.inl ⟨i,hk⟩),Rx⟩
  ·refine .inr ⟨hfn,.inr hz,λhx=>?_⟩
   obtain⟨i,_,hi⟩:=hpk g hx
   rw[(t1.old g hz).1] at hi
   cases hi
  ·exact .inl hx⟩
 have Vs:∀ (i:Nat) (b:TV),rt.res[i]?=some b->∃ u cs,vs[i]?=some u/\a6 b.t u cs/\M w' (Av (uJ Pg o.dst λg=>∃ k,nF g=some k) Z) H b.t b.m b.x cs (λg=>nF g=some i) []:=λi b hb=>by
  obtain⟨u,c,u1,u2,u3⟩:=q4 i b hb
  refine⟨u,c,u1,u2,?_⟩
  rcases aqB with hs |hfn
  ·exact Bb _ (aJ.1 hs b (da hb)) u3
  ·exact b8 (ayh hfn) _ (λ_ _ _=>rfl) (λ_ h _=>h) (λ_ h=>h) u3
 have aqC:∀ l:List TV,l=rt.res->Holds w' (Av (uJ Pg o.dst λg=>∃ k,nF g=some k) Z) H (gM (a.put o.dst v)) (S1.put o.dst (.QU (l.map some))) (λg=>uJ Pg o.dst (λg=>∃ k,nF g=some k) g=some d) (.QU (l.map some)) (.tuple vs.toArray):=λl hl=>by
  subst hl
  refine⟨vs,λg=>(nF g).getD 0,rfl,by simp[q2],λj b hj=>?_⟩
  rw[bO] at hj
  cases hb:rt.res[j]? with
  |none=>rw[hb] at hj;cases hj
  |some b'=>
   rw[hb] at hj
   simp only[aP,ah] at hj
   subst hj
   obtain⟨u,c,u1,u2,u3⟩:=Vs j b' hb
   exact⟨u,c,u1,u2,b8 (cN.refl _ _) _ (λ_ _ _=>rfl) (λg hg _=>⟨g1 g ⟨j,hg⟩,by show(nF g).getD 0=j;rw[hg];rfl⟩) (λ_ h=>h) u3⟩
 subst q1
 match abi:rt.res,q2 with
 |[b],q2=>
  match vs,q2 with
  |[u],_=>
   obtain⟨u',c,u1,u2,u3⟩:=Vs 0 b (by rw[abi];rfl)
   simp only[aD,ah] at u1
   subst u1
   exact⟨c,u2,b8 (cN.refl _ _) _ (λ_ _ _=>rfl) (λg hg _=>g1 g ⟨0,hg⟩) (λ_ h=>h) u3⟩
 |[],q2=>
  match vs,q2 with
  |[],_=>exact aqC [] abi.symm
 |b::b'::r,q2=>
  match vs,q2 with
  |u::u'::vr,_=>exact aqC (b::b'::r) abi.symm
end Go.Pv
namespace Go.Pv
open List Int IntKind
variable {P:Program} {w w':World} {A A' Wr:Nat->Prop} {H H':Nat->Value} {tm N':Nat->Value} {S S' S1:St} {σ eo lU:Nat->Option Nat} {w0:World} {W0 Z:Nat->Prop} {a:Act} {own:Nat->Prop} {v:Value} {Θ:kR} {dst:Option Nat} {O:va} {hh:Hint} {Γ:Gl}
theorem SF (cur:List Value) (off n:Nat) (h:off+n<=cur.length):putCells cur off ((cur.drop off).take n)=cur:=by
 have hl:((cur.drop off).take n).length=n:=by rw[aH,aX];omega
 apply cU;intro k;rw[yS _ _ _ _ (by omega),hl];by_cases h1:k<off
 ·rw[ay h1]
 rw[ar h1];by_cases h2:k<off+n
 ·rw[ay h2,bM,ay (by omega),cr];congr 1;omega
 rw[ar h2]
theorem akA {ow:Nat->Prop} {TB nF:Nat->Option Nat} (t1:cY eo w0 W0 Z H S1 a w) (hpk:∀ g,ow g->Pk eo S1.length g) (Ry:∀ g,Own TB g↔ow g) (M7:Fr w (Own TB) w')
  (q3:∀ g i,nF g=some i->(w.heap.size<=g∨Own TB g)/\g<w'.heap.size):
  ∃ Pg,cY Pg w0 W0 Z H S1 a w'/\(∀ g k,nF g=some k->Pg g=some (S1.length+k))/\cN w w' (Av eo Z) (Av Pg Z)/\
   (∀ g i,i<S1.length->Pg g=some i->eo g=some i)/\(∀ g i,i<S1.length->eo g=some i->w'.heap[g]?=w.heap[g]?)/\(∀ g i,Pg g=some i->(∃ k,nF g=some k)∨(¬ow g/\eo g=some i)):=by
 let Pg:Nat->Option Nat:=λg=>match nF g with
  |some i=>some (S1.length+i)
  |none=>open Classical in if ow g then none else eo g
 have ady:∀ g i,Pg g=some i->(∃ k,nF g=some k/\i=S1.length+k)∨(nF g=none/\ ¬ow g/\eo g=some i):=λg i hg=>by
  simp only[Pg] at hg
  split at hg
  ·rename_i k hk
   injection hg with hg
   exact .inl ⟨k,hk,hg.symm⟩
  ·rename_i hk
   split at hg
   ·cases hg
   ·exact .inr ⟨hk,by assumption,hg⟩
 have aen:∀ g k,nF g=some k->Pg g=some (S1.length+k):=λg k hk=>by simp only[Pg,hk]
 have amL:∀ g i,nF g=none->¬ow g->eo g=some i->Pg g=some i:=λg i h1 h2 h3=>by simp only[Pg,h1,ar h2,h3]
 have SE:∀ g,g<w.heap.size->¬ow g->w'.heap[g]?=w.heap[g]?:=λg hg hn=>M7.block g hg (λhx=>hn ((Ry g).1 hx))
 have abh:∀ g,g<w.heap.size->∀ k,nF g=some k->ow g:=λg hg k hk=>by
  rcases(q3 g k hk).1 with hx |hx
  ·omega
  ·exact(Ry g).1 hx
 have fZ:cN w w' (Av eo Z) (Av Pg Z):=⟨λg hn hg=>SE g hg (λhx=>hn (by obtain⟨i,_,hi⟩:=hpk g hx;exact .inl ⟨i,hi⟩)),λg hg hx=>by
  rcases hx with⟨i,hx⟩ |hx
  ·rcases ady g i hx with⟨k,hk,_⟩ |⟨_,_,hk⟩
   ·obtain⟨i,_,hi⟩:=hpk g (abh g hg k hk)
    exact .inl ⟨i,hi⟩
   ·exact .inl ⟨i,hk⟩
  ·exact .inr hx⟩
 have X7:∀ g,ow g->∀ i,eo g=some i->S1.length<=i:=λg hg i hi=>by
  obtain⟨j,hj,M8⟩:=hpk g hg
  rw[hi] at M8
  injection M8 with M8
  omega
 refine⟨Pg,?_,aen,fZ,λg i hi hg=>?_,λg i hi hg=>SE g (t1.lt g i hg) (λhx=>by have:=X7 g hx i hg;omega),λg i hg=>by
  rcases ady g i hg with⟨k,hk,_⟩ |⟨_,h1,h2⟩
  ·exact .inl ⟨k,hk⟩
  ·exact .inr ⟨h1,h2⟩⟩
 rotate_left
 ·rcases ady g i hg with⟨k,_,hk⟩ |⟨_,_,hk⟩
  ·omega
  ·exact hk
 refine⟨t1.len,t1.defers,t1.fr.trans M7 (λg hg hl=>?_),λg i hg=>?_,λg i hg=>?_,λg hg=>⟨?_,(t1.old g hg).2⟩,λi=>?_⟩
 ·obtain⟨i,_,hi⟩:=hpk g ((Ry g).1 hg)
  rcases t1.new g i hi with hx |hx
  ·omega
  ·exact hx
 ·rcases ady g i hg with⟨k,hk,_⟩ |⟨_,_,hk⟩
  ·rcases(q3 g k hk).1 with hx |hx
   ·have:=t1.fr.size;exact .inl (by omega)
   ·obtain⟨i,_,hi⟩:=hpk g ((Ry g).1 hx)
    exact t1.new g i hi
  ·exact t1.new g i hk
 ·rcases ady g i hg with⟨k,hk,_⟩ |⟨_,_,hk⟩
  ·exact(q3 g k hk).2
  ·have:=t1.lt g i hk;have:=M7.size;omega
 ·obtain⟨z1,z2⟩:=t1.old g hg
  have Rx: ¬ow g:=λhx=>by obtain⟨i,_,hi⟩:=hpk g hx;rw[z1] at hi;cases hi
  have:nF g=none:=by
   cases hk:nF g with
   |none=>rfl
   |some k=>exact absurd (abh g (by have:=t1.fr.size;omega) k hk) Rx
  simp only[Pg,this,ar Rx,z1]
 ·by_cases hil:i<S1.length
  ·refine(t1.holds i).kept fZ (λg hg hl=>?_) (λs hs=>?_)
   ·have Rx: ¬ow g:=λhx=>by have:=X7 g hx i hg;omega
    refine⟨SE g hl Rx,amL g i ?_ Rx hg⟩
    cases hk:nF g with
    |none=>rfl
    |some k=>exact absurd (abh g hl k hk) Rx
   ·by_cases ZS:s<S1.length
    ·exact⟨λ_ _ h=>h,rfl,_,t1.holds s,λg hg hl=>SE g hl (λhx=>by have:=X7 g hx s hg;omega)⟩
    ·have hd:S1.at s=.dead:=ca λhx=>ZS (qs hx)
     exact⟨λ_ _ h=>h,rfl,λ_=>False,by rw[hd];trivial,λ_ h=>h.elim⟩
  ·have hd:S1.at i=.dead:=ca λhx=>hil (qs hx)
   rw[hd]
   trivial
theorem akB (h:cY σ w0 W0 Z H S a w) {T:TypeId} {x:Operand} {av:AV} {b:TV} {s:Nat} {p:Path} {cs:List Value} (ho:S.pJ Θ T x=some av) (hl:D1 x av=some (s,p)) (e:S.pA x av=some (b,S1)) (hk:b.m.eY=false) (hm:a6 b.t (a.eval x) cs): (p=[]/\s<S.length/\a6 b.t (gM a s) cs)∨∃ r ex kI,p≠[]/\S1.at s=.v r (ex++[p])/\a6 r.t (gM a s) kI/\cz w p r.t kI=some cs/\valid p r.t r.x/\dA p r.t r.m r.x=some b/\∀ q∈ex,wm q p=false:=by
 have hh:=eH h ho;cases av with
 |v a0 ex=>
  cases x with
  |tmp i=>simp only[D1,ah,aF] at hl;obtain⟨rfl,rfl⟩:=hl;exact .inl ⟨rfl,qs (by simp only[St.pJ,ah] at ho;rw[ho];exact λe=>by cases e),hm⟩
  |const c=>simp[D1] at hl
  |func f=>simp[D1] at hl
  |global g=>simp[D1] at hl
 |al t s' p'=>
  simp only[D1,ah,aF] at hl;obtain⟨rfl,rfl⟩:=hl;obtain⟨r,kI,cs1,hr,hc,hm1⟩:=hh;simp only[St.pA] at e;split at e;case h_2=>cases e
  rename_i b' hb;cases uH:b'.m.eY with
  |true=>rw[uH] at e;simp only[ab,ah,aF] at e;obtain⟨rfl,rfl⟩:=e;rw[hk] at uH;cases uH
  |false=>
  rw[uH] at e;simp only[ae] at e;have hpr:=np h hr hc hb;obtain⟨Rv,_⟩:=hpr;cases hp:p' with
  |nil=>
  subst hp;simp only[ah,aF] at e;obtain⟨rfl,rfl⟩:=e;simp only[cz,ah] at hc;subst hc;obtain⟨b2,g1,g2⟩:=hr.get;simp only[dA,ah] at g1;subst g1;have X5:r.t=b'.t:=by rw[Rv];exact g2
  refine .inl ⟨rfl,qs (by obtain⟨ex0,hs0,_⟩:=hr.at_;rw[hs0];exact λe=>by cases e),?_⟩;rw[Rv] at hm ⊢;obtain rfl:=oA hm hm1;have:=hr.mat;rw[X5,Rv] at this;exact this
  |cons stp pp=>rw[hp] at e;obtain⟨ex,b2,kS,ow0,j1,j2,j3,j4,hM,j5,j6,j7⟩:=vd h hr;rw[j1] at e;simp only[ah,aF] at e;rw[←hp] at e;obtain⟨rfl,rfl⟩:=e;obtain⟨r3,ex3,q1,q2,q3⟩:=Nt hb;rw[j1] at q1;injection q1 with q1 q1';subst q1 q1';rw[j3] at q3;injection q3 with q3;subst q3;rw[Rv] at hm;obtain rfl:=oA hm hm1;have hlen:((S.weaken s').cover s' p').length=S.length:=(by simp[St.weaken,St.cover]);have ZS:s'<S.length:=qs (by rw[j1];exact λe=>by cases e);have X0:St.at (((S.weaken s').cover s' p').set s' (.v r (ex++[p']))) s'=.v r (ex++[p']):=(by rw[kT,ay ⟨rfl,by rw[hlen];exact ZS⟩]);exact .inr ⟨r,ex,kI,by simp,by rw[←hp];exact X0,hr.mat,by rw[←hp];exact hc,by rw[←hp];exact hr.val,by rw[←hp];exact j3,by rw[←hp];exact q2⟩
 |_=>simp[D1] at hl
theorem Zo {b:TV} {s:Nat} {p:Path} {r:TV} {ex:List Path} {kI cs:List Value} {LF:Nat->Prop} {b0:TV} {m:Md} {z:r.t.I} (h:cY σ w0 W0 Z H S a w) (LD:∀ g,LF g->∃ i,S.length<=i/\σ g=some i) (nI:S.at s=.v r (ex++[p])) (Vv:a6 r.t (gM a s) kI) (hc:cz w p r.t kI=some cs) (A3:valid p r.t r.x) (sj:dA p r.t r.m r.x=some b0) (Da:∀ q∈ex,wm q p=false) (KY:wk b p r.t r.m r.x=some (m,z)) (hM:M w (Av σ Z) H b.t b.m b.x cs LF []):∃ lU,cY lU w0 W0 Z H (S.put (some s) (.v ⟨r.t,m,z⟩ ex)) a w/\(∀ g i,S.length<=i->¬LF g->σ g=some i->lU g=some i)/\∀ g i,lU g=some i->LF g∨σ g=some i:=by
 have hh:=h.holds s;rw[nI] at hh;obtain⟨aAK,hm0,hM0⟩:=hh;obtain rfl:=oA Vv hm0;have Vq:open_ p (ex++[p]):=by
  intro q hq s' r' e;rcases a8.1 hq with hq |hq
  ·exact Sy Da q hq s' r' e
  rw[bj.1 hq] at e;have:=br length e;simp at this
 obtain⟨kS,kH,c1,c2,c3,Fe⟩:=XH p hM0 Vq A3 sj;rw[hc] at c1;injection c1 with c1;subst c1;have rH:b.t=b0.t:=Q2 p KY sj;obtain⟨Nj,Fe⟩:=Fe b (m,z) rH KY;have hlen:cs.length=b.t.size:=(rB _ hM).1;let lU:Nat->Option Nat:=λg'=>open Classical in if LF g' then some s else σ g'
 have afy:∀ g' i,lU g'=some i->(LF g'/\i=s)∨(¬LF g'/\σ g'=some i):=λg' i dH=>by
  simp only[lU] at dH;split at dH
  ·injection dH with dH;exact .inl ⟨by assumption,dH.symm⟩
  exact .inr ⟨by assumption,dH⟩
 have aee:∀ g' i,¬LF g'->σ g'=some i->lU g'=some i:=λg' i hn dH=>by simp only[lU,ar hn,dH]
 have ZS:s<S.length:=qs (by rw[nI];exact λe=>by cases e);have auS:∀ g',Av lU Z g'->Av σ Z g':=λg' dH=>by
  rcases dH with⟨i,dH⟩ |dH
  ·rcases afy g' i dH with⟨hx,_⟩ |⟨_,hx⟩
   ·obtain⟨j,_,hj⟩:=LD g' hx;exact .inl ⟨j,hj⟩
   exact .inl ⟨i,hx⟩
  exact .inr dH
 have Rx:∀ g i,i<S.length->σ g=some i->¬LF g:=λg i hi hg hx=>by obtain⟨j,hj,M8⟩:=LD g hx;rw[hg] at M8;injection M8 with M8;omega
 have fZ:cN w w (Av σ Z) (Av lU Z):=⟨λ_ _ _=>rfl,λg _ hg=>auS g hg⟩;have hl0:kI.length=r.t.size:=(rB _ hM0).1;have Vs:=Fe w (Av lU Z) cs LF ex fZ (by rw[hlen,rH]) (λg rA Ni _=>by
  unfold F6
  split
  ·rename_i q hq
   split
   ·rename_i hgq
    obtain⟨_,_,cur,T,hw,hb,xb⟩:=Nj q.1 q.2 hq
    subst hgq
    refine⟨cur,T,hw,?_⟩
    rw[xb,SF _ _ _ (by simpa using hb)]
    simpa using hw
   ·rfl
  ·rfl) (b8 fZ _ (λ_ _ _=>rfl) (λg hg _=>hg) (λ_ hx=>by cases hx) hM) (λg rA _ Ni=>absurd rA (Rx g s ZS Ni)) (λq hq1 hq2=>by
  rcases a8.1 hq2 with hq2 |hq2
  ·exact hq2
  ·exact absurd (by rw[bj.1 hq2];simp) (hq1 []))
 have aDh:Ng p r.t kI cs=kI:=by
  cases hp:cp p with
  |false=>exact DY p hp
  |true=>have h1:=rC (w:=w) p hp sj hl0;rw[hc] at h1;injection h1 with h1;rw[Fb p hp sj hl0 (by rw[hlen,rH]),h1];exact SF _ _ _ (by rw[hl0];exact qR p hp sj)
 rw[aDh] at Vs;refine⟨lU,?_,λg i _ hn hg=>aee g i hn hg,λg i hg=>(afy g i hg).imp (·.1) (·.2)⟩;have:=h.put (dst:=some s) (av:=.v ⟨r.t,m,z⟩ ex) (v:=gM a s) fZ h.fr (λg i hg=>?_) (λg hg=>?_) (λi g hi hd hg=>⟨rfl,aee g i (Rx g i hi hg) hg⟩) (λd hd hdl _=>?_)
 ·rw[Ik] at this;exact this
 ·rcases afy g i hg with⟨hx,_⟩ |⟨_,hx⟩
  ·obtain⟨j,_,hj⟩:=LD g hx;exact⟨h.new g j hj,h.lt g j hj⟩
  exact⟨h.new g i hx,h.lt g i hx⟩
 ·have h0:=(h.old g hg).1;simp only[lU];split
  ·rename_i hx;obtain⟨j,_,hj⟩:=LD g hx;rw[h0] at hj;cases hj
  exact h0
 injection hd with hd;subst hd;refine⟨kI,Vv,b8 (cN.refl _ _) _ (λ_ _ _=>rfl) (λg hg _=>?_) (λ_ h=>h) Vs⟩;rcases hg with⟨k1,_⟩ |k1
 ·exact aee g s (Rx g s ZS k1) k1
 simp only[lU,ay k1]
theorem ahO {b:TV} {s:Nat} {cs:List Value} {LF:Nat->Prop} (h:cY σ w0 W0 Z H S a w) (LD:∀ g,LF g->∃ i,S.length<=i/\σ g=some i) (hs:s<S.length) (Vv:a6 b.t (gM a s) cs) (hM:M w (Av σ Z) H b.t b.m b.x cs LF []):∃ lU,cY lU w0 W0 Z H (S.put (some s) (.v b [])) a w/\(∀ g i,S.length<=i->¬LF g->σ g=some i->lU g=some i)/\∀ g i,lU g=some i->LF g∨σ g=some i:=by
 refine⟨uJ σ (some s) LF,?_,λg i hi hn hg=>by
  unfold uJ
  rw[ar hn]
  exact HC (λe=>by injection e with e;omega) hg,λg i hg=>by
  unfold uJ at hg
  split at hg
  ·rename_i hx;exact .inl hx
  ·exact .inr (qT hg).1⟩
 have:=h.afv (dst:=some s) (v:=gM a s) (ow:=LF) (A':=Av σ Z) (λ_ _=>rfl) h.fr (λg hg=>by
  obtain⟨i,hi,Ba⟩:=LD g hg
  exact⟨h.lt g i Ba,.inl ⟨i,hi,Ba⟩⟩) (λg _ hg=>by
  rcases hg with hg |hg
  ·exact hg
  ·obtain⟨i,hi,Ba⟩:=LD g hg
   exact .inl ⟨i,Ba⟩) Vv hM
 rw[Ik] at this;exact this
theorem aqD {S S2:St} {s:Nat} (h0:cY σ w0 W0 Z H S a w) (h:cY eo w0 W0 Z H S2 a w'):cY eo w0 W0 Z H (S.again S2 s) a w':=by
 have hl:S2.length=S.length:=by have:=h0.len;have:=h.len;omega
 have hlen:(S.again S2 s).length=S2.length:=by
  unfold St.again;split
  ·rw[iy];omega
  rfl
 have hv:∀ k r ex,S2.at k=.v r ex->(S.again S2 s).at k=.v r ex:=λk r ex he=>by
  rcases again_at (s:=s) hl k with hx |⟨_,_,_,_,_,_,hx,_⟩
  ·rw[hx,he]
  rw[he] at hx;cases hx
 refine⟨by rw[hlen];exact h.len,h.defers,h.fr,h.new,h.lt,h.old,λi=>?_⟩;rcases again_at (s:=s) hl i with hx |⟨t,r,ex,ha,hs,ht,hb,hx⟩
 ·rw[hx];exact(h.holds i).kept (cN.refl _ _) (λg hg _=>⟨rfl,hg⟩) (λk _=>⟨λr ex he=>hv k r ex he,rfl,_,h.holds k,λ_ _ _=>rfl⟩)
 rw[hx];have h1:=h0.holds i;rw[ha] at h1;obtain⟨r0,kI,cs,hr,hc,hm⟩:=h1;have h2:=h.holds s;rw[hs] at h2;obtain⟨cs2,hm2,hM2⟩:=h2;obtain⟨ex0,g1,g2⟩:=hr.at_;obtain⟨c,c1,c2⟩:=hr.get;have e0:r0.t=t:=by simp only[dA,ah] at c1;rw[←c1] at c2;exact c2
 have e1:kI=cs:=by simpa only[cz,ah] using hc
 have Vv:=hr.mat;rw[e0,ht] at Vv;have e2:=oA hm2 Vv;refine⟨r,cs2,cs2,⟨⟨ex,hv s r ex hs,λq _ s r e=>by cases q<;>simp at e⟩,trivial,⟨_,rfl,ht.symm⟩,hm2⟩,rfl,?_⟩;rw[e2,e1];exact hm
theorem auY (hT:kh P hh.tab=true) (hO:LM Γ P O w0 W0) (h:cY σ w0 W0 Z H S a w) {o:Oper} {f:FuncId} {j:Nat} {as:List Operand} {ts:List TypeId} {K:St->aa} {ret:iI} (e:Pr hh O o f j as ts S K=some ret):ahN P f (as.map a.eval) w λv w'=>∃ S',K S'=some ret/\Rel w0 W0 Z H S' (a.put o.dst v) w':=by
 unfold Pr at e;split at e;case h_2=>cases e
 rename_i x T hx hT';split at e;case h_2=>cases e
 rename_i av pL;split at e;case h_2=>cases e
 rename_i s p b S1 hlp htk;cases amM:(!b.m.eY&&sJ b.t b.m) with
 |false=>rw[amM] at e;cases e
 |true=>
  rw[amM] at e;simp only[ab] at e;simp only[ai,bV] at amM;obtain⟨hk,hlb⟩:=amM;split at e;case h_2=>cases e
  rename_i args aem;obtain⟨OW,Vy⟩:∃ OW,OW=x5 S1 as ((List.replicate as.length none).set j (some ⟨b.t,xO b.t b.m 0,b.x⟩)) args:=⟨_,rfl⟩;cases hls:(Pq b.t b.m||x5 S1 as ((List.replicate as.length none).set j (some ⟨b.t,xO b.t b.m 0,b.x⟩)) args) with
 |false=>rw[hls] at e;cases e
 |true=>
  rw[hls] at e;simp only[ab] at e;rw[←Vy,bd] at hls;obtain⟨eo,cs,ow,t1,hm,hM,t3,t2⟩:=rM h pL htk;have ayi:=akB h pL hlp htk hk hm;have Oe:j<as.length:=(bL.1 hx).1;obtain⟨r1,r2⟩:=D6 t1 as ts _ (by simp) aem;let H':Nat->Value:=λn=>cs.getD n undef;have hH':∀ (j:Nat) (u:Value),cs[j]?=some u->H' (0+j)=u:=λj u hj=>(by simp only[H',aW,aG,hj,qj]);have hMt:=aqA (H':=H') (n:=0) b.t hlb hM hH';let TB:Nat->Option Nat:=λg=>open Classical in if ow g then some j else none
  have TC:∀ g i,TB g=some i↔ow g/\j=i:=λg i=>by
   simp only[TB];split
   ·rename_i hx;exact⟨λhg=>⟨hx,by injection hg⟩,λhg=>by rw[hg.2]⟩
   rename_i hx;exact⟨λhg=>(by cases hg),λhg=>absurd hg.1 hx⟩
  have Ry:∀ g,Own TB g↔ow g:=λg=>⟨λ⟨i,hi⟩=>((TC g i).1 hi).1,λhg=>⟨j,(TC g _).2 ⟨hg,rfl⟩⟩⟩;have hpk:∀ g,ow g->Pk eo S1.length g:=λg hg=>(by rw[t2];exact t3.now g hg);let B:Nat->Prop:=λg=>OW=true/\Av σ Z g/\ ¬ow g;have akz:cN w w (Av σ Z) (Av TB B):=⟨λ_ _ _=>rfl,λg _ hg=>by
   rcases hg with hg |hg
   ·obtain⟨i,_,hi⟩:=t3.was g ((Ry g).1 hg)
    exact .inl ⟨i,hi⟩
   ·exact hg.2.1⟩
  have ayf:cN w w (Av eo Z) (Av TB B):=⟨λ_ _ _=>rfl,λg hl hg=>t3.Av.2 (akz.wr g hl hg)⟩;have auX:OW=false->cN w w (Pk eo S1.length) (Av TB B):=λhn=>⟨λ_ _ _=>rfl,λg _ hg=>by
   rcases hg with hg |hg
   ·exact hpk g ((Ry g).1 hg)
   ·have h1:=hg.1;rw[hn] at h1;cases h1⟩
  have r3:=λhf:OW=true=>Im t1 as ts _ (by simp) aem (Vy.symm.trans hf)
  have lT:In Γ B H' w TB args (as.map a.eval):=by
   refine⟨by simp[r1],λg i hg=>?_,λg hg=>⟨?_,?_⟩,λg o hg=>⟨?_,?_⟩,λk r uH=>?_⟩
   ·obtain⟨q1,q2⟩:=(TC g i).1 hg;obtain⟨k,_,hk⟩:=t3.was g q1;exact⟨by omega,h.lt g k hk⟩
   ·cases hc:TB g with
    |none=>rfl
    |some i=>exact absurd ((TC g i).1 hc).1 hg.2.2
   ·rcases hg.2.1 with⟨i,hi⟩ |hz
    ·exact h.lt g i hi
    have:=(h.old g hz).2;have:=h.fr.size;omega
   ·cases hc:TB g with
    |none=>rfl
    |some i=>
    obtain⟨k,_,hk⟩:=t3.was g ((TC g i).1 hc).1;obtain⟨e1,e2⟩:=hO.env g o hg;rcases h.new g k hk with hx |hx
    ·have:=dh e2;omega
    exact absurd hx e1
   ·obtain⟨e1,e2⟩:=hO.env g o hg;rw[h.fr.block g (dh e2) e1,e2]
   rw[bO];rcases r2 k r uH with⟨b',hb',rfl⟩ |⟨x',Pf,AQ⟩
   ·rw[iF] at hb';split at hb'
    ·rename_i hjk;subst hjk;simp only[dz,ay Oe,ah] at hb';subst hb';rw[hx];exact⟨_,rfl,cs,hm,b8 akz _ (λ_ _ _=>rfl) (λg hg _=>(TC g j).2 ⟨hg,rfl⟩) (λ_ h=>h) hMt⟩
    rw[lE] at hb';split at hb'<;>simp at hb'
   have fin:∀ {A0:Nat->Prop},cN w w A0 (Av TB B)->Zn w A0 H' r (a.eval x') (λ_=>False)->Zn w (Av TB B) H' r (a.eval x') (λg=>TB g=some k):=λfZ AQ=>by
    cases r with
    |tv b=>obtain⟨c,c1,c2⟩:=AQ;exact⟨c,c1,b8 fZ _ (λ_ _ _=>rfl) (λ_ hg _=>hg.elim) (λ_ h=>h) c2⟩
    |fn f' kn=>obtain⟨vs,c1,c2,c3⟩:=AQ;exact⟨vs,c1,c2,λk c hk=>by obtain⟨u,u1,u2⟩:=c3 k c hk;exact⟨u,u1,fA fZ _ u2⟩⟩
   cases hfn:OW with
   |false=>rw[Pf];exact⟨_,rfl,fin (auX hfn) (AQ H')⟩
   |true=>
   rcases r3 hfn k r uH with⟨b',hb',rfl⟩ |⟨x2,UY,ayg⟩
   ·rw[iF] at hb';split at hb'
    ·rename_i hjk;subst hjk;simp only[dz,ay Oe,ah] at hb';subst hb';rw[hx];exact⟨_,rfl,cs,hm,b8 akz _ (λ_ _ _=>rfl) (λg hg _=>(TC g j).2 ⟨hg,rfl⟩) (λ_ h=>h) hMt⟩
    rw[lE] at hb';split at hb'<;>simp at hb'
   rw[Pf] at UY;injection UY with UY;subst UY;rw[Pf];exact⟨_,rfl,fin ayf (ayg H')⟩
  refine((hO.sd f).1 _ _ ret w TB _ H' B e lT).mono λv w' hv=>?_;obtain⟨rt,X5,adx⟩:=hv;split at X5;case h_2=>cases X5
  rename_i c hrefs;rw[←Vy] at X5;cases tR:rt.res.all (λd=>JM d.m&&(uI d.t d.m||OW)) with
 |false=>rw[tR] at X5;cases X5
 |true=>
  rw[tR] at X5
  simp only[ab] at X5
  split at X5
  case isFalse=>cases X5
  rename_i hct
  split at X5
  case isFalse=>cases X5
  rename_i hcm
  split at X5
  case h_2=>cases X5
  rename_i S2 hS2
  obtain⟨nF,vs,q1,q2,q3,q4,q5⟩:=adx.res
  obtain⟨kS,hMc⟩:=q5 c hrefs
  obtain⟨Pg,hR,aen,fZ,amL,xB,aw8⟩:=akA t1 hpk Ry adx.fr q3
  -- what comes back
  obtain⟨ct,cm,cx⟩:=c
  simp only at hct hcm hMc hS2
  subst hct
  subst hcm
  have ayc:cN w w' (Av σ Z) (Av Pg Z):=⟨λg hn hl=>fZ.same g (λhx=>hn (t3.Av.1 hx)) hl,λg hl hg=>t3.Av.1 (fZ.wr g hl hg)⟩
  have ayh:Pq b.t b.m=true∨cN w' w' (Av nF B) (Av Pg Z):=hls.imp id λhfn=>⟨λ_ _ _=>rfl,λg _ hg=>by
   rcases hg with⟨i,hi⟩ |hz
   ·rcases aw8 g i hi with⟨k,hk⟩ |⟨Rx,hk⟩
    ·exact .inl ⟨k,hk⟩
    ·exact .inr ⟨hfn,t3.Av.1 (.inl ⟨i,hk⟩),Rx⟩
   ·refine .inr ⟨hfn,.inr hz,λhx=>?_⟩
    obtain⟨i,_,hi⟩:=hpk g hx
    rw[(t1.old g hz).1] at hi
    cases hi⟩
  have hMb:=Vw (B:=Av nF B) (A':=Av Pg Z) ayc b.t hlb ayh hM hH' hMc
  have LD:∀ g,nF g=some rt.res.length->∃ i,S1.length<=i/\Pg g=some i:=λg hg=>⟨_,by omega,aen g _ hg⟩
  have hR2:∃ lU,cY lU w0 W0 Z H S2 a w'/\(∀ g i,S1.length<=i->¬nF g=some rt.res.length->Pg g=some i->lU g=some i)/\∀ g i,lU g=some i->nF g=some rt.res.length∨Pg g=some i:=by
   rcases ayi with⟨rfl,ap9,hmt⟩ |⟨r,ex,kI,hp,nI,hmt,Da,A3,sj,aqE⟩
   ·simp only[St.Nl,ah] at hS2
    subst hS2
    exact ahO (b:=⟨b.t,b.m,_⟩) hR LD (by rw[t2];exact ap9) hmt hMb
   ·cases p with
    |nil=>exact absurd rfl hp
    |cons stp pp=>
    simp only[St.Nl,nI] at hS2
    split at hS2
    case h_2=>cases hS2
    rename_i m z KY
    simp only[ah,List.dropLast_concat] at hS2
    subst hS2
    have hh0:=t1.holds s
    rw[nI] at hh0
    obtain⟨aAK,hm0,hM0⟩:=hh0
    obtain rfl:=oA hmt hm0
    have Vq:open_ (stp::pp) (ex++[stp::pp]):=by
     intro q hq s' r' e
     rcases a8.1 hq with hq |hq
     ·exact Sy aqE q hq s' r' e
     ·rw[bj.1 hq] at e
      have:=br length e
      simp at this
    have ZS:s<S1.length:=qs (by rw[nI];exact λe=>by cases e)
    have auV:=(rG fZ (stp::pp) none hM0 (λg hg _=>xB g s ZS hg) Vq A3).1
    exact Zo (b:=⟨b.t,b.m,_⟩) hR LD nI hmt (auV.trans Da) A3 sj aqE KY hMb
  refine⟨_,X5,?_⟩
  obtain⟨σ3,hR3,hR4,hR5⟩:=hR2
  replace hR3:=aqD (s:=s) h hR3
  revert hR3
  generalize St.again S S2 s=S2
  intro hR3
  have aD1:S2.length=S1.length:=by have:=hR3.len;have:=t1.len;omega
  obtain⟨n,hn⟩:∃ n,n=rt.res.length:=⟨_,rfl⟩
  have aDi:∀ g k,k<n->nF g=some k->σ3 g=some (S1.length+k):=λg k hk hg=>hR4 g _ (by omega) (λe=>by rw[hg] at e;injection e with e;omega) (aen g k hg)
  refine⟨_,hR3.amC (ow:=λg=>∃ k,k<n/\nF g=some k) (aM _) (λ_ _ _=>rfl) hR3.fr (λg ⟨k,hk1,hk⟩=>⟨(q3 g k hk).2,.inl ⟨S1.length+k,by omega,aDi g k hk1 hk⟩⟩) λd _ g1 g2=>?_⟩
  have aAV:OW=true->cN w' w' (Av nF B) (Av (uJ σ3 o.dst λg=>∃ k,k<n/\nF g=some k) Z):=λhfn=>⟨λ_ _ _=>rfl,λg _ hg=>by
   rcases g2 g hg with (⟨i,hi⟩ |hz) |⟨k,_,hk⟩
   ·rcases hR5 g i hi with hk |hi
    ·exact .inl ⟨_,hk⟩
    ·rcases aw8 g i hi with⟨k,hk⟩ |⟨Rx,hk⟩
     ·exact .inl ⟨k,hk⟩
     ·exact .inr ⟨hfn,t3.Av.1 (.inl ⟨i,hk⟩),Rx⟩
   ·refine .inr ⟨hfn,.inr hz,λhx=>?_⟩
    obtain⟨i,_,hi⟩:=hpk g hx
    rw[(t1.old g hz).1] at hi
    cases hi
   ·exact .inl ⟨k,hk⟩⟩
  have Vs:∀ (i:Nat) (b:TV),rt.res[i]?=some b->∃ u cs,vs[i]?=some u/\a6 b.t u cs/\M w' (Av (uJ σ3 o.dst λg=>∃ k,k<n/\nF g=some k) Z) H b.t b.m b.x cs (λg=>i<n/\nF g=some i) []:=λi b hb=>by
   obtain⟨u,c,u1,u2,u3⟩:=q4 i b hb
   have hil:i<n:=by rw[hn];exact(bL.1 hb).1
   have hsb:=aJ.1 tR b (da hb)
   simp only[ai,bd] at hsb
   refine⟨u,c,u1,u2,?_⟩
   rcases hsb.2 with hs |hfn
   ·exact b8 (cN.refl _ _) _ (λ_ _ _=>rfl) (λg hg _=>⟨hil,hg⟩) (λ_ h=>h) (F' _ hsb.1 (Bb _ hs u3))
   ·exact b8 (aAV hfn) _ (λ_ _ _=>rfl) (λg hg _=>⟨hil,hg⟩) (λ_ h=>h) (F' _ hsb.1 u3)
  have aqC:∀ l:List TV,l=rt.res->Holds w' (Av (uJ σ3 o.dst λg=>∃ k,k<n/\nF g=some k) Z) H (gM (a.put o.dst v)) (S2.put o.dst (.QU (l.map some))) (λg=>uJ σ3 o.dst (λg=>∃ k,k<n/\nF g=some k) g=some d) (.QU (l.map some)) (.tuple vs.toArray):=λl hl=>by
   subst hl
   refine⟨vs,λg=>(nF g).getD 0,rfl,by simp[q2],λj b hj=>?_⟩
   rw[bO] at hj
   cases hb:rt.res[j]? with
   |none=>rw[hb] at hj;cases hj
   |some b'=>
    rw[hb] at hj
    simp only[aP,ah] at hj
    subst hj
    obtain⟨u,c,u1,u2,u3⟩:=Vs j b' hb
    exact⟨u,c,u1,u2,b8 (cN.refl _ _) _ (λ_ _ _=>rfl) (λg hg _=>⟨g1 g ⟨j,hg⟩,by show(nF g).getD 0=j;rw[hg.2];rfl⟩) (λ_ h=>h) u3⟩
  subst q1
  match abi:rt.res,q2 with
 |[b],q2=>
  match vs,q2 with
  |[u],_=>
   obtain⟨u',c,u1,u2,u3⟩:=Vs 0 b (by rw[abi];rfl)
   simp only[aD,ah] at u1
   subst u1
   exact⟨c,u2,b8 (cN.refl _ _) _ (λ_ _ _=>rfl) (λg hg _=>g1 g ⟨0,hg⟩) (λ_ h=>h) u3⟩
 |[],q2=>
  match vs,q2 with
  |[],_=>exact aqC [] abi.symm
 |b::b'::r,q2=>
  match vs,q2 with
  |u::u'::vr,_=>exact aqC (b::b'::r) abi.symm
end Go.Pv
namespace Go.Pv
open List Int IntKind
variable {P:Program} {w w':World} {A A' Wr:Nat->Prop} {H:Nat->Value} {tm N':Nat->Value} {S S' S1:St} {σ eo lU:Nat->Option Nat} {w0:World} {W0 Z:Nat->Prop} {a:Act} {own:Nat->Prop} {v:Value} {Θ:kR} {dst:Option Nat}
theorem cY.drop (h:cY σ w0 W0 Z H S a w) (ow:Nat->Prop) (Pe:∀ g,ow g->∀ i,σ g=some i->S.length<=i): ∃ lU,cY lU w0 W0 Z H S a w/\(∀ g,Av lU Z g->Av σ Z g/\ ¬ow g∨Z g):=by
 let lU:Nat->Option Nat:=λg=>open Classical in if ow g then none else σ g
 have h2:∀ g i,lU g=some i->¬ow g/\σ g=some i:=λg i hg=>by
  simp only[lU] at hg;split at hg
  ·cases hg
  exact⟨by assumption,hg⟩
 have h3:∀ g i,¬ow g->σ g=some i->lU g=some i:=λg i hn hg=>by simp only[lU,ar hn,hg]
 have fZ:cN w w (Av σ Z) (Av lU Z):=⟨λ_ _ _=>rfl,λg _ hg=>by
  rcases hg with⟨i,hi⟩ |hz
  ·exact .inl ⟨i,(h2 g i hi).2⟩
  ·exact .inr hz⟩
 refine⟨lU,⟨h.len,h.defers,h.fr,λg i hg=>h.new g i (h2 g i hg).2,λg i hg=>h.lt g i (h2 g i hg).2,λg hg=>⟨?_,(h.old g hg).2⟩,λi=>?_⟩,λg hg=>?_⟩
 ·simp only[lU];split
  ·rfl
  exact(h.old g hg).1
 ·by_cases hil:i<S.length
  ·refine(h.holds i).kept fZ (λg hg _=>⟨rfl,h3 g i (λhx=>?_) hg⟩) (λs hs=>⟨λ_ _ h=>h,rfl,_,h.holds s,λ_ _ _=>rfl⟩);have:=Pe g hx i hg;omega
  have hd:S.at i=.dead:=ca λhx=>hil (qs hx);rw[hd];trivial
 rcases hg with⟨i,hi⟩ |hz
 ·exact .inl ⟨.inl ⟨i,(h2 g i hi).2⟩,(h2 g i hi).1⟩
 exact .inr hz
theorem JR:∀ (p:Path) {t:Ty} {m:Md} {x:t.I} {b:TV},ahc p=true->dA p t m x=some b->valid p t x
 |[],_,_,_,_,_,_=>trivial
 | .idx _::_,_,_,_,_,h,_=>by simp[ahc] at h
 | .deref::p,t,m,x,b,h,e=>by cases t<;>simp only[dA] at e<;>first |cases e |exact JR p h e
 | .fst::p,t,m,x,b,h,e=>by cases t<;>simp only[dA] at e<;>first |cases e |exact JR p h e
 | .snd::p,t,m,x,b,h,e=>by cases t<;>simp only[dA] at e<;>first |cases e |exact JR p h e
theorem cY.freeze (h:cY σ w0 W0 Z H S a w) {d:Nat} {r:TV} (nI:S.at d=.v r []):Rel w0 W0 Z H (S.put (some d) (.v (kTV r) [])) a w:=by
 have hh:=h.holds d;rw[nI] at hh;obtain⟨cs,hm,hM⟩:=hh;have h0:∀ g,σ g=some d->¬Av (release σ (some d)) Z g:=λg hg hx=>by
  rcases hx with⟨i,hi⟩ |hz
  ·obtain⟨h1,h2⟩:=qT hi;rw[hg] at h1;exact h2 h1
  rw[(h.old g hz).1] at hg;cases hg
 have fZ:cN w w (Av σ Z) (Av (release σ (some d)) Z):=⟨λ_ _ _=>rfl,λg _ hg=>Tr hg⟩;refine⟨release σ (some d),?_⟩;have:=h.put (dst:=some d) (av:=.v (kTV r) []) (v:=gM a d) fZ h.fr (λg i hg=>⟨h.new g i (qT hg).1,h.lt g i (qT hg).1⟩) (λg hg=>by
  unfold release
  split
  ·rfl
  ·exact(h.old g hg).1) (λi g _ hd hg=>⟨rfl,HC hd hg⟩) (λd' hd' _ _=>by
  injection hd' with hd'
  subst hd'
  refine⟨cs,hm,KU (t:=r.t) rfl (M_K (λg _ hx=>Tr hx) r.t rfl h0 hM)⟩)
 rw[Ik] at this;exact this
theorem aoF (h:Rel w0 W0 Z H S a w) {d:Nat} (e:amq S d=some (true,S')):Rel w0 W0 Z H S' a w:=by
 obtain⟨σ,h⟩:=h;unfold amq at e;split at e;case h_2=>cases e
 rename_i t s st pp nI;split at e;case h_2=>cases e
 rename_i r ex hs;split at e;case h_2=>cases e
 rename_i b sj;cases hk:b.m.eY with
 |true=>rw[hk] at e;cases e
 |false=>
 rw[hk] at e;simp only[ae,ah,aF] at e;obtain⟨Da,rfl⟩:=e;have hal:=h.holds d;rw[nI] at hal;obtain⟨eo,cs2,ow,t1,hm,hM,hk1,hn⟩:=PF (vv:=gM a d) h (by simp) hal hs sj hk (λq hq=>by simpa using aJ.1 Da q hq);have:=t1.afv (dst:=some d) (v:=gM a d) (ow:=ow) (A':=Av eo Z) (λ_ _=>rfl) t1.fr (λg hg=>by
  obtain⟨i,hi,Ba⟩:=hk1.now g hg
  exact⟨t1.lt g i Ba,.inl ⟨i,by omega,Ba⟩⟩) (λg _ hg=>by
  rcases hg with hg |hg
  ·exact hg
  ·obtain⟨i,hi,Ba⟩:=hk1.now g hg
   exact .inl ⟨i,Ba⟩) hm hM
 rw[Ik] at this;exact⟨_,this⟩
theorem abj (h:Rel w0 W0 Z H S a w) (q:Nat×Path):Rel w0 W0 Z H (S.auA q) a w:=by
 obtain⟨σ,h⟩:=h;obtain⟨s,p⟩:=q;unfold St.auA;simp only;split;case h_2=>exact⟨σ,h⟩
 rename_i r nI;split;case h_2=>exact⟨σ,h⟩
 rename_i b sj;cases hc:(b.m.eY|| !ahc p) with
 |true=>exact⟨σ,h⟩
 |false=>
 simp only[ae];simp only[Bool.or_eq_false_iff,Bool.not_eq_false'] at hc;obtain⟨hk,hni⟩:=hc;split
 ·exact h.freeze nI
 rename_i hp;split;case h_2=>exact⟨σ,h⟩
 rename_i m z KY;have hh:=h.holds s;rw[nI] at hh;obtain⟨kI,Vv,hM0⟩:=hh;have A3:=JR p hni sj;have Vq:open_ p []:=λ_ hq=>by cases hq
 obtain⟨cs,kH,k1,k2,k3⟩:=focus p hM0 Vq A3 sj
 have hal:∃ t vv,Holds w (Av σ Z) H (gM a) S (λ_=>False) (.al t s p) vv/\t=b.t/\a6 t vv cs:=by
  obtain⟨vv,hvv⟩:∃ vv,a6 b.t vv cs:=by
   unfold a6;cases hg:isAgg b.t with
   |true=>exact⟨_,by rw[ay rfl]⟩
   |false=>have hl:=(rB _ k3).1;have h1:=aeb hg;rw[h1] at hl;obtain⟨u,rfl⟩:=List.length_eq_one_iff.1 hl;exact⟨u,by simp⟩
  exact⟨b.t,vv,⟨r,kI,cs,⟨⟨[],nI,Vq⟩,A3,⟨b,sj,rfl⟩,Vv⟩,k1,hvv⟩,rfl,hvv⟩
 obtain⟨t,vv,hal,rfl,hvv⟩:=hal;obtain⟨eo,cs2,ow,t1,hm,hM,hk1,hn⟩:=PF (vv:=vv) h hp hal nI sj hk (λ_ hq=>by cases hq);obtain rfl:=oA hvv hm;obtain⟨lU,d1,d2⟩:=t1.drop ow (λg hg i hi=>by
  obtain⟨j,hj,M8⟩:=hk1.now g hg
  rw[hi] at M8
  injection M8 with M8
  omega)
 have hK:K w (Av lU Z) b.t b.x cs:=M_K (λg _ hx=>by
  rcases d2 g hx with hx |hx
  ·exact hx.1
  ·exact .inr hx) b.t rfl (λg hg hx=>by
  rcases d2 g hx with hx |hx
  ·exact hx.2 hg
  ·obtain⟨j,_,hj⟩:=hk1.now g hg
   rw[(t1.old g hx).1] at hj;cases hj) hM
 have aDj:St.at (((S.weaken s).cover s p).set s (.v r [p])) s=.v r ([]++[p]):=by rw[kT,ay ⟨rfl,by simp only[St.weaken,St.cover,aY];exact qs (by rw[nI];exact λe=>by cases e)⟩];rfl
 obtain⟨σ3,h3,_⟩:=Zo (b:=kTV b) (LF:=λ_=>False) (ex:=[]) d1 (λ_ h=>h.elim) aDj Vv k1 A3 sj (λ_ hq=>by cases hq) KY (KU (t:=b.t) rfl hK);exact⟨σ3,h3⟩
theorem ahP:∀ (l:List (Nat×List (Nat×Path))) {id:Nat},Rel w0 W0 Z H S a w->Rel w0 W0 Z H (aj4 l id S) a w
 |[],_,h=>h
 |q::r,id,h=>by
  unfold aj4;cases Nat.beq q.1 id with
  |true=>
   simp only[ab];generalize q.2=l;induction l generalizing S with
   |nil=>exact h
   |cons x l ih=>exact ih (abj h x)
  |false=>exact ahP r h
end Go.Pv
