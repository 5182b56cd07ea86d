/- Functions of the library (Ins): what is told of them holds. -/
import Derived.Test.YtcpakhaogbempaaGreatDel
import Derived.Shelf.Lays2
import Derived.Lib.JoinLaws
import Derived.Lib.AppendZeros
import Derived.Lib.AppendZerosOnto
import Derived.Lib.Overlaps
import Derived.Laws.Externs
import Derived.Laws.IdiomCopy
import Derived.Laws.NewBlocks
namespace Go.Pv
open Go.Shelf Go.RowKit Go.Proofs
set_option linter.unusedVariables false
set_option linter.unusedSimpArgs false
section
variable {P:Program} {ρ:Ren}
theorem lP (w:World) (dT sT ty elem:TypeId) (b o asz axt:Nat) (a:Addr) (asA axu:Nat) (cs:List Value) (s:Nat)
  (hu:P.underlying dT=some (.slice elem)) (hs:(P.info? elem).map (·.size)=some s) (hn:cs.length=Nat.min asA asz*s)
  (s4:∀ j v,cs[j]?=some v→w.cell? (a.add j)=some v) (hc:∀ j,j<cs.length→(w.cell? ⟨b,o+j,none⟩).isSome=true) (hf:∀ j,j<cs.length→w.frozen? ⟨b,o+j,none⟩=false) (h1:∀ v∈cs,v.oneCell'=true):
  (Builtin.copy_ #[dT,sT] ty #[.slice (some ⟨b,o,none⟩) asz axt,.slice (some a) asA axu]).run P w=.ok (goInt (Nat.min asA asz)) (w.setCells b o cs):=by
 have hl:=run_loadCells_list (P:=P) w a cs s4
 have cD:=run_storeCells_cells (P:=P) b o cs 0 w (by simpa using hc) (by simpa using hf) h1
 cases hq:P.info? elem with
 |none=>simp[hq] at hs
 |some i=>
  have hi:i.size=s:=by simpa[hq] using hs
  simp[Builtin.copy_,run_underlying hu,Builtin.lenOf,Builtin.firstCells,sizeOf,typeInfo,hq,hi,←hn,hl,cD]
theorem PA (w:World) {o:Oper} {a:Act} {K:Act→World→Prop} {Q:Exit→Act→World→Prop} (d s:Operand) (t t':TypeId)
  (ho:o.op=.call { callee:=.builtin .copy,args:=#[d,s],argTypes:=#[t,t'] }) (v u:Value) (hd:a.eval d=v) (hs:a.eval s=u) {v':Value} {w':World}
  (hr:(Builtin.copy_ #[t,t'] o.type #[v,u]).run P w=.ok v' w') (h:K (a.put o.dst v') w'):o.wp P a w K Q:=by
 unfold Oper.wp execOp
 simp only[ho,resolve,invoke,builtin,Sem.run_bind,Sem.run_pure,Result.andThen_ok,List.map_toArray,List.map_cons,List.map_nil,hd,hs,hr]
 exact h
theorem my (w:World) {ops:Array Oper} {rest:List Oper} {o:Oper} {a:Act} {Q:Exit→Act→World→Prop} (hgd:o.guard=none) (d s:Operand) (t t':TypeId)
  (ho:o.op=.call { callee:=.builtin .copy,args:=#[d,s],argTypes:=#[t,t'] }) (v u:Value) (hd:a.eval d=v) (hs:a.eval s=u) {v':Value} {w':World}
  (hr:(Builtin.copy_ #[t,t'] o.type #[v,u]).run P w=.ok v' w') (h:wpList P ops Q rest (a.put o.dst v') w'):wpList P ops Q (o::rest) a w:=
 wpList_plain hgd fun _ hK=>PA w d s t t' ho v u hd hs hr (hK _ _ h)
theorem vG {ops:Array Oper} {o:Oper} {a:Act} {w:World} {K:Act→World→Prop} {Q:Exit→Act→World→Prop} {E:Prop}
  (hg:o.guard=none) (d x:Operand) (dT sT:TypeId) (cA:o.op=Op.call { callee:=Callee.builtin Builtin.copy,args:=#[d,x],argTypes:=#[dT,sT] })
  (v u:Value) (hd:a.eval d=v) (hx:a.eval x=u) {v':Value} {w':World} (hr:(Builtin.copy_ #[dT,sT] o.type #[v,u]).run P w=.ok v' w') (hK:K (a.put o.dst v') w'):
  if Region.wanted o (yielded ops a.tmps)=true then Oper.wp P o a w K Q else E:=by
 have hw:Region.wanted o (yielded ops a.tmps)=true:=by simp[Region.wanted,hg]
 rw[if_pos hw]
 unfold Oper.wp
 simp[execOp,cA,resolve,invoke,builtin,hd,hx,hr,Result.andThen]
 exact hK
structure IZ (P:Program) (ρ:Ren) (s:Nat) (zs:Array Value) (i0:TypeInfo):Prop where
 mixed:P.follows .mixedOrders=true
 FB:Bears P (ρ.f 22) (Body2.n22 ρ)
 FO : ∃ fn : Func, P.funcs[ρ.f 29]? = some fn ∧ (fn.name == "runtime.NumGoroutine") = false ∧ fn.body.isNone = true ∧ Extern.findNext fn = none ∧ Extern.find fn = some (Extern.SlicesOverlaps.overlaps #[ρ.t 24, ρ.t 24] #[ρ.t 4])
 t0:P.underlying (ρ.t 0)=some (TypeDesc.tuple #[])
 a0:∀ w,(Go.isAgg (ρ.t 0)).run P w=.ok false w
 z0:∀ w,(Go.sizeOf (ρ.t 0)).run P w=.ok 1 w
 v0:∀ w,(zeroValue (ρ.t 0)).run P w=.ok (Value.tuple #[]) w
 t3:P.underlying (ρ.t 3)=some (TypeDesc.int IntKind.i64)
 a3:∀ w,(Go.isAgg (ρ.t 3)).run P w=.ok false w
 z3:∀ w,(Go.sizeOf (ρ.t 3)).run P w=.ok 1 w
 v3:∀ w,(zeroValue (ρ.t 3)).run P w=.ok (Value.int IntKind.i64 0) w
 t4:P.underlying (ρ.t 4)=some (TypeDesc.bool)
 a4:∀ w,(Go.isAgg (ρ.t 4)).run P w=.ok false w
 z4:∀ w,(Go.sizeOf (ρ.t 4)).run P w=.ok 1 w
 v4:∀ w,(zeroValue (ρ.t 4)).run P w=.ok (Value.bool false) w
 t24:P.underlying (ρ.t 24)=some (TypeDesc.slice (ρ.t 9))
 a24:∀ w,(Go.isAgg (ρ.t 24)).run P w=.ok false w
 z24:∀ w,(Go.sizeOf (ρ.t 24)).run P w=.ok 1 w
 v24:∀ w,(zeroValue (ρ.t 24)).run P w=.ok (Value.slice none 0 0) w
 z9:∀ w,(Go.sizeOf (ρ.t 9)).run P w=.ok s w
 hz:zs.size=s
 hzo:zs.toList.all (fun u=>u.oneCell')=true
 JB:P.info? (ρ.t 9)=some i0
 hz0:i0.zero=some (.agg zs)
 Jp:i0.size=s
 hby:i0.bytes≤32*s
 DH:0<s
variable {s:Nat} {zs:Array Value} {i0:TypeInfo}
set_option maxHeartbeats 4000000 in
set_option maxRecDepth 100000 in
theorem KG (L:IZ P ρ s zs i0) (b off n c i vb wO m vc:Nat) (cs vs:List Value) (w:World) (hi:i<n) (hm:0<m) (s5:n+m≤c) (KH:c≤9223372036854775807) (hvb:vb≠b)
  (j9:cs.length=n*s) (I0:vs.length=m*s)
  (iY:∀ j v,cs[j]?=some v→w.cell? ⟨b,off+j,none⟩=some v) (hsp:∀ j,j<(n+m)*s→(w.cell? ⟨b,off+j,none⟩).isSome=true) (hfz:∀ j,j<(n+m)*s→w.frozen? ⟨b,off+j,none⟩=false)
  (hvs:∀ j v,vs[j]?=some v→w.cell? ⟨vb,wO+j,none⟩=some v) (h1c:∀ v∈cs,v.oneCell'=true) (h1v:∀ v∈vs,v.oneCell'=true)
  (tA tB:TypeId) (kA kB:Nat) (hsa:w.shape? vb=some (tA,kA)) (hsb:w.shape? b=some (tB,kB)) (hkB:kB≠0) (hfa:w.frozen? ⟨vb,wO,none⟩=false) (hfe:w.frozen? ⟨vb,kA,none⟩=false):
  Calls P (ρ.f 22) #[.slice (some ⟨b,off,none⟩) n c,.int .i64 i,.slice (some ⟨vb,wO,none⟩) m vc] w fun e w'=>
   e=.returned (.slice (some ⟨b,off,none⟩) (n+m) c)∧w'=(w.drew.setCells b (off+(i+m)*s) (cs.drop (i*s))).setCells b (off+i*s) vs:=by
 have t0:=L.t0;have a0:=L.a0;have z0:=L.z0;have v0:=L.v0;have t3:=L.t3;have a3:=L.a3;have z3:=L.z3;have v3:=L.v3;have t4:=L.t4;have a4:=L.a4;have z4:=L.z4;have v4:=L.v4;have z9:=L.z9;have t24:=L.t24;have a24:=L.a24;have z24:=L.z24;have v24:=L.v24
 have u0:=run_underlying L.t0;have u3:=run_underlying L.t3;have u4:=run_underlying L.t4;have u24:=run_underlying L.t24
 have Jp: ¬((m:Int)=0):=by omega
 have hz2: ¬((i:Int)=(n:Int)):=by omega
 have j8:(P.info? (ρ.t 9)).map (·.size)=some s:=by rw[L.JB];simp[L.Jp]
 have hov:∀ lb cb,(callFunc (ρ.f 29) #[.slice (some ⟨vb,wO,none⟩) m vc,.slice (some ⟨b,off+(i+m)*s,none⟩) lb cb]).run P w=.ok (.value (.bool false)) w:=fun lb cb=>by
  obtain⟨fn,o1,o2,o3,o4,o5⟩:=L.FO
  rw[run_callFunc_extern o1 o2 o3 o4 o5,
   Lib.run_overlaps_apart w (ρ.t 24) (ρ.t 4) (ρ.t 9) L.t24 s L.z9 ⟨vb,wO,none⟩ ⟨b,off+(i+m)*s,none⟩ m vc lb cb hvb tA tB kA kB hsa hsb hkB hfa hfe]
  rfl
 have RJ:i*s≤n*s:=Nat.mul_le_mul_right s (by omega)
 have asB:(i+m)*s+(n - i)*s=(n+m)*s:=by rw[←Nat.add_mul];congr 1;omega
 have awu:i*s+(n - i)*s=n*s:=by rw[←Nat.add_mul];congr 1;omega
 have aeR:i*s+m*s≤(n+m)*s:=by rw[←Nat.add_mul];exact Nat.mul_le_mul_right s (by omega)
 have HG:(cs.drop (i*s)).length=(n - i)*s:=by rw[List.length_drop,j9,Nat.sub_mul]
 have mixed:=L.mixed
 have hw1:IntKind.i64.wrap ((i:Int)+(m:Int))=(i:Int)+(m:Int):=by rw[IntKind.wrap_i64];omega
 have hb1:(0:Int)≤(i:Int)+(m:Int):=by omega
 have fT:i≤n:=by omega
 have htn:((i:Int)+(m:Int)).toNat=i+m:=by omega
 have hb2: ¬(c=i+m):=by omega
 have hb3:(i:Int)≤(n:Int)+(m:Int):=by omega
 have hb4: ¬(c=i):=by omega
 have TO:Nat.min (n+m - i) (n+m - (i+m))=n - i:=by show min (n+m - i) (n+m - (i+m))=n - i;omega
 have TP:Nat.min m (n+m - i)=m:=by show min m (n+m - i)=m;omega
 have awv:∀ ty dc sc,(Builtin.copy_ #[(ρ.t 24),(ρ.t 24)] ty #[.slice (some ⟨b,off+(i+m)*s,none⟩) (n+m - (i+m)) dc,.slice (some ⟨b,off+i*s,none⟩) (n+m - i) sc]).run P w.drew=.ok (goInt ((n - i:Nat):Int)) (w.drew.setCells b (off+(i+m)*s) (cs.drop (i*s))):=fun ty dc sc=>by
  have:=lP (P:=P) w.drew (ρ.t 24) (ρ.t 24) ty (ρ.t 9) b (off+(i+m)*s) (n+m - (i+m)) dc ⟨b,off+i*s,none⟩ (n+m - i) sc (cs.drop (i*s)) s L.t24 j8 (by rw[HG,TO])
   (fun j v hj=>by rw[Addr.add_lit,Nat.add_assoc];exact iY (i*s+j) v (by rwa [List.getElem?_drop] at hj))
   (fun j hj=>by rw[Nat.add_assoc];exact hsp _ (by rw[HG] at hj;omega)) (fun j hj=>by rw[Nat.add_assoc];exact hfz _ (by rw[HG] at hj;omega)) (fun v hv=>h1c v (List.mem_of_mem_drop hv))
  rwa [TO] at this
 obtain⟨W1,RP⟩:∃ W1,W1=w.drew.setCells b (off+(i+m)*s) (cs.drop (i*s)):=⟨_,rfl⟩
 have nQ:∀ (vs:List Value) (o:Nat) (w:World) (h:∀ j,j<vs.length→(w.cell? ⟨b,o+j,none⟩).isSome=true) (k:Nat) (hk:(w.cell? ⟨b,k,none⟩).isSome=true),((w.setCells b o vs).cell? ⟨b,k,none⟩).isSome=true:=fun vs o w h k hk=>by
  by_cases fT:o≤k∧k<o+vs.length
  ·have:=World.cell?_setCells_in b vs o w h (k - o) (by omega)
   rw[show o+(k - o)=k by omega] at this
   rw[this];rfl
  ·rw[World.cell?_setCells_out b vs o w ⟨b,k,none⟩ (fun _ _=>by show k<o∨o+vs.length≤k;omega)]
   exact hk
 have aww:∀ k,k<(n+m)*s→(W1.cell? ⟨b,off+k,none⟩).isSome=true:=fun k hk=>by
  rw[RP]
  exact nQ _ _ _ (fun j hj=>by rw[Nat.add_assoc];exact hsp _ (by rw[HG] at hj;omega)) _ (hsp k hk)
 have axv:∀ (W:World),(∀ x,W.cell? x=W1.cell? x)→(∀ x,W.frozen? x=W1.frozen? x)→∀ ty dc,(Builtin.copy_ #[(ρ.t 24),(ρ.t 24)] ty #[.slice (some ⟨b,off+i*s,none⟩) (n+m - i) dc,.slice (some ⟨vb,wO,none⟩) m vc]).run P W=.ok (goInt m) (W.setCells b (off+i*s) vs):=fun W hWc hWf ty dc=>by
  have:=lP (P:=P) W (ρ.t 24) (ρ.t 24) ty (ρ.t 9) b (off+i*s) (n+m - i) dc ⟨vb,wO,none⟩ m vc vs s L.t24 j8 (by rw[I0,TP])
   (fun j v hj=>by
    rw[Addr.add_lit,hWc,RP,World.cell?_setCells_out b _ _ _ _ (fun h _=>absurd h hvb)]
    exact hvs j v hj)
   (fun j hj=>by rw[hWc,Nat.add_assoc];exact aww _ (by rw[I0] at hj;omega)) (fun j hj=>by rw[hWf,RP,World.frozen?_setCells,Nat.add_assoc];exact hfz _ (by rw[I0] at hj;omega)) h1v
  rwa [TP] at this
 rw[←RP] at awv
 obtain⟨_,_,FG⟩:=L.FB
 clear nQ aww asB awu aeR RJ HG TO TP
 go_enter FG,Body2.n22_ntmps ρ
 go_wp2_with (simp only[hov])
 go_region_law_o (refine vG rfl _ _ (ρ.t 24) (ρ.t 24) rfl _ _ (by simp[Act.eval,Act.put]) (by simp[Act.eval,Act.put]) (awv _ _ _) ?_)
 go_wp2_with (at_builtin;refine my _ rfl _ _ (ρ.t 24) (ρ.t 24) rfl _ _ rfl rfl (axv _ (fun _=>rfl) (fun _=>rfl) _ _) ?_)
 go_ret
 first |exact⟨rfl,rfl⟩ |exact⟨rfl,by rw[RP]⟩
set_option maxHeartbeats 4000000 in
set_option maxRecDepth 100000 in
theorem TQ (L:IZ P ρ s zs i0) (X:Option Addr) (n c vb wO m vc:Nat) (w w':World) (v':Value) (hm:0<m) (hnc:n≤c) (KH:c≤9223372036854775807) (hX:X=none→c=0)
  (cQ:∀ ty,(Builtin.append_ #[(ρ.t 24),(ρ.t 24)] ty #[.slice X n c,.slice (some ⟨vb,wO,none⟩) m vc]).run P w=.ok v' w'):
  Calls P (ρ.f 22) #[.slice X n c,.int .i64 n,.slice (some ⟨vb,wO,none⟩) m vc] w fun e w2=>e=.returned v'∧w2=w':=by
 have t0:=L.t0;have a0:=L.a0;have z0:=L.z0;have v0:=L.v0;have t3:=L.t3;have a3:=L.a3;have z3:=L.z3;have v3:=L.v3;have t4:=L.t4;have a4:=L.a4;have z4:=L.z4;have v4:=L.v4;have z9:=L.z9;have t24:=L.t24;have a24:=L.a24;have z24:=L.z24;have v24:=L.v24
 have u0:=run_underlying L.t0;have u3:=run_underlying L.t3;have u4:=run_underlying L.t4;have u24:=run_underlying L.t24
 have mixed:=L.mixed
 have Jp: ¬((m:Int)=0):=by omega
 obtain⟨_,_,FG⟩:=L.FB
 cases X with
 |none=>
  obtain rfl:=hX rfl
  obtain rfl:n=0:=by omega
  go_enter FG,Body2.n22_ntmps ρ
  go_wp2_with (at_builtin;refine Lib.wpList_append_run _ rfl _ _ _ _ rfl _ _ rfl rfl _ _ (cQ _) ?_)
  all_goals (go_ret;exact⟨rfl,rfl⟩)
 |some A=>
  go_enter FG,Body2.n22_ntmps ρ
  go_wp2_with (at_builtin;refine Lib.wpList_append_run _ rfl _ _ _ _ rfl _ _ rfl rfl _ _ (cQ _) ?_)
  all_goals (go_ret;exact⟨rfl,rfl⟩)
set_option maxHeartbeats 4000000 in
set_option maxRecDepth 100000 in
theorem PB (L:IZ P ρ s zs i0) (b off n c i vb wO m vc:Nat) (cs vs:List Value) (w:World) (hi:i<n) (hm:0<m) (hnc:n≤c) (s5:c<n+m) (KH:c≤9223372036854775807) (aaL:(n+m)*i0.bytes≤140737488355328) (hbl:n+m≤4398046511104)
  (j9:cs.length=n*s) (I0:vs.length=m*s) (hbw:b<w.heap.size) (hvw:vb<w.heap.size)
  (iY:∀ j v,cs[j]?=some v→w.cell? ⟨b,off+j,none⟩=some v)
  (hvs:∀ j v,vs[j]?=some v→w.cell? ⟨vb,wO+j,none⟩=some v) (h1c:∀ v∈cs,v.oneCell'=true) (h1v:∀ v∈vs,v.oneCell'=true):
  Calls P (ρ.f 22) #[.slice (some ⟨b,off,none⟩) n c,.int .i64 i,.slice (some ⟨vb,wO,none⟩) m vc] w fun e w'=>
   e=.returned (.slice (some ⟨w.heap.size,0,none⟩) (n+m) (grownCap w (n+m) c (ρ.t 9)))∧
   w'=(((w.alloc (.cells ((cs.take (i*s)).toArray++Builtin.zeroCells zs (n+m - i)++Builtin.zeroCells zs (grownCap w (n+m) c (ρ.t 9) - (n+m))) (ρ.t 9))).drew.setCells w.heap.size (i*s) vs).drew).setCells w.heap.size ((i+m)*s) (cs.drop (i*s)):=by
 have t0:=L.t0;have a0:=L.a0;have z0:=L.z0;have v0:=L.v0;have t3:=L.t3;have a3:=L.a3;have z3:=L.z3;have v3:=L.v3;have t4:=L.t4;have a4:=L.a4;have z4:=L.z4;have v4:=L.v4;have z9:=L.z9;have t24:=L.t24;have a24:=L.a24;have z24:=L.z24;have v24:=L.v24
 have u0:=run_underlying L.t0;have u3:=run_underlying L.t3;have u4:=run_underlying L.t4;have u24:=run_underlying L.t24
 have mixed:=L.mixed
 have JB:=L.JB;have hz0:=L.hz0;have hzs:=L.Jp
 have Jp: ¬((m:Int)=0):=by omega
 have hz2: ¬((i:Int)=(n:Int)):=by omega
 have hz3:(c:Int)<(n:Int)+(m:Int):=by omega
 have j8:(P.info? (ρ.t 9)).map (·.size)=some s:=by rw[JB];simp[hzs]
 have RJ:i*s≤n*s:=Nat.mul_le_mul_right s (by omega)
 have asB:(i+m)*s+(n - i)*s=(n+m)*s:=by rw[←Nat.add_mul];congr 1;omega
 have aeR:i*s+m*s≤(n+m)*s:=by rw[←Nat.add_mul];exact Nat.mul_le_mul_right s (by omega)
 have hkk:(n:Int)+(m:Int) - (i:Int)=((n+m - i:Nat):Int):=by omega
 have hik:i+(n+m - i)=n+m:=by omega
 have hold:(Builtin.firstCells i0.size i (.slice (some ⟨b,off,none⟩) i c)).run P w.drew=.ok (cs.take (i*s)).toArray w.drew:=by
  rw[hzs]
  exact run_firstCells_some w.drew s i ⟨b,off,none⟩ i c (cs.take (i*s)) (by rw[List.length_take];omega) (fun j v hj=>by
   rw[Addr.add_lit]
   rw[List.getElem?_take] at hj
   split at hj
   ·exact iY j v hj
   ·cases hj)
 have hrz:∀ ty,(Builtin.append_ #[(ρ.t 24),(ρ.t 3)] ty #[.slice (some ⟨b,off,none⟩) i c,.int .i64 ((n:Int)+(m:Int) - (i:Int))]).run P w=
   .ok (.slice (some ⟨w.heap.size,0,none⟩) (n+m) (grownCap w (n+m) c (ρ.t 9))) (w.drew.alloc (.cells ((cs.take (i*s)).toArray++Builtin.zeroCells zs (n+m - i)++Builtin.zeroCells zs (grownCap w (n+m) c (ρ.t 9) - (n+m))) (ρ.t 9))):=fun ty=>by
  have hkb:(n+m - i)*i0.bytes≤(n+m)*i0.bytes:=Nat.mul_le_mul_right _ (by omega)
  have h:=Lib.run_append_grow_zeros w (ρ.t 24) (ρ.t 3) ty (ρ.t 9) i0 _ .i64 .i64 L.t24 L.t3 JB hz0 (some ⟨b,off,none⟩) i c (cs.take (i*s)) hold (n+m - i) (by omega) (by rw[hzs];exact L.DH) (by omega) (by omega) (by omega) (by rw[hik];exact growslice_fits s5 aaL)
  rw[hik] at h
  rw[hkk]
  exact h
 obtain⟨G,hG⟩:∃ G,G=grownCap w (n+m) c (ρ.t 9):=⟨_,rfl⟩
 obtain⟨vg,TR⟩:∃ vg:Array Value,vg=(cs.take (i*s)).toArray++Builtin.zeroCells zs (n+m - i)++Builtin.zeroCells zs (G - (n+m)):=⟨_,rfl⟩
 rw[←hG] at hrz ⊢
 rw[←TR] at hrz ⊢
 have hRl:(n+m)*s≤vg.size:=by
  have e1:(n+m)*s=i*s+(n+m - i)*s:=by rw[←Nat.add_mul,hik]
  rw[TR]
  simp only[Array.size_append,List.size_toArray,List.length_take,j9,Builtin.zeroCells,Array.size_map,Array.size_range,L.hz]
  omega
 obtain⟨W1,RP⟩:∃ W1,W1=w.drew.alloc (.cells vg (ρ.t 9)):=⟨_,rfl⟩
 rw[←RP] at hrz
 have hN:∀ j,j<(n+m)*s→(W1.cell? ⟨w.heap.size,j,none⟩).isSome=true:=fun j hj=>by
  rw[RP,World.cell?_alloc_at (w:=w.drew) vg _ w.heap.size j rfl,Array.getElem?_eq_getElem (by omega)];rfl
 have hNf:∀ j,W1.frozen? ⟨w.heap.size,j,none⟩=false:=fun j=>by rw[RP];exact World.frozen?_alloc_at (w:=w.drew) vg _ w.heap.size j rfl
 have hOb:∀ j v,w.cell? ⟨b,j,none⟩=some v→W1.cell? ⟨b,j,none⟩=some v:=fun j v h=>by rw[RP,World.cell?_alloc_past (w:=w.drew) _ b j hbw];exact h
 have hOv:∀ j v,w.cell? ⟨vb,j,none⟩=some v→W1.cell? ⟨vb,j,none⟩=some v:=fun j v h=>by rw[RP,World.cell?_alloc_past (w:=w.drew) _ vb j hvw];exact h
 have TO:Nat.min m (n+m - i)=m:=by show min m (n+m - i)=m;omega
 have TP:Nat.min (n - i) (n+m - (i+m))=n - i:=by show min (n - i) (n+m - (i+m))=n - i;omega
 have axw:∀ (W:World),(∀ x,W.cell? x=W1.cell? x)→(∀ x,W.frozen? x=W1.frozen? x)→∀ ty dc,(Builtin.copy_ #[(ρ.t 24),(ρ.t 24)] ty #[.slice (some ⟨w.heap.size,i*s,none⟩) (n+m - i) dc,.slice (some ⟨vb,wO,none⟩) m vc]).run P W=.ok (goInt m) (W.setCells w.heap.size (i*s) vs):=fun W hWc hWf ty dc=>by
  have:=lP (P:=P) W (ρ.t 24) (ρ.t 24) ty (ρ.t 9) w.heap.size (i*s) (n+m - i) dc ⟨vb,wO,none⟩ m vc vs s L.t24 j8 (by rw[I0,TO])
   (fun j v hj=>by rw[Addr.add_lit,hWc];exact hOv _ v (hvs j v hj))
   (fun j hj=>by rw[hWc];exact hN _ (by rw[I0] at hj;omega)) (fun j hj=>by rw[hWf];exact hNf _) h1v
  rwa [TO] at this
 have hGn:n+m≤G:=by rw[hG];exact grownCap_ge w _ _ _
 have axU:G≤9223372036854775807:=by
  have:=grownCap_le_maxLen w (n+m) c (ρ.t 9) (by unfold Go.maxLen;omega)
  rw[←hG] at this
  unfold Go.maxLen at this
  omega
 have hGi: ¬(G=i):=by omega
 have axV: ¬(G=i+m):=by omega
 have hci: ¬(c=i):=by omega
 have hbN:b≠w.heap.size:=by omega
 have HG:(cs.drop (i*s)).length=(n - i)*s:=by rw[List.length_drop,j9,Nat.sub_mul]
 have nQ:∀ (g:Nat) (vs:List Value) (o:Nat) (w:World) (h:∀ j,j<vs.length→(w.cell? ⟨g,o+j,none⟩).isSome=true) (k:Nat) (hk:(w.cell? ⟨g,k,none⟩).isSome=true),((w.setCells g o vs).cell? ⟨g,k,none⟩).isSome=true:=fun g vs o w h k hk=>by
  by_cases fT:o≤k∧k<o+vs.length
  ·have:=World.cell?_setCells_in g vs o w h (k - o) (by omega)
   rw[show o+(k - o)=k by omega] at this
   rw[this];rfl
  ·rw[World.cell?_setCells_out g vs o w ⟨g,k,none⟩ (fun _ _=>by show k<o∨o+vs.length≤k;omega)]
   exact hk
 have awx:∀ (W:World),(∀ x,W.cell? x=(W1.setCells w.heap.size (i*s) vs).cell? x)→(∀ x,W.frozen? x=(W1.setCells w.heap.size (i*s) vs).frozen? x)→∀ ty dc sc,(Builtin.copy_ #[(ρ.t 24),(ρ.t 24)] ty #[.slice (some ⟨w.heap.size,(i+m)*s,none⟩) (n+m - (i+m)) dc,.slice (some ⟨b,off+i*s,none⟩) (n - i) sc]).run P W=.ok (goInt ((n - i:Nat):Int)) (W.setCells w.heap.size ((i+m)*s) (cs.drop (i*s))):=fun W hWc hWf ty dc sc=>by
  have:=lP (P:=P) W (ρ.t 24) (ρ.t 24) ty (ρ.t 9) w.heap.size ((i+m)*s) (n+m - (i+m)) dc ⟨b,off+i*s,none⟩ (n - i) sc (cs.drop (i*s)) s L.t24 j8 (by rw[HG,TP])
   (fun j v hj=>by
    rw[Addr.add_lit,hWc,World.cell?_setCells_out _ _ _ _ _ (fun h _=>absurd h hbN),Nat.add_assoc]
    exact hOb _ v (iY (i*s+j) v (by rwa [List.getElem?_drop] at hj)))
   (fun j hj=>by rw[hWc];exact nQ _ _ _ _ (fun t ht=>hN _ (by rw[I0] at ht;omega)) _ (hN _ (by rw[HG] at hj;omega)))
   (fun j hj=>by rw[hWf,World.frozen?_setCells];exact hNf _) (fun v hv=>h1c v (List.mem_of_mem_drop hv))
  rwa [TP] at this
 subst RP
 have hE1:∀ x,((w.alloc (.cells vg (ρ.t 9))).drew).cell? x=(w.drew.alloc (.cells vg (ρ.t 9))).cell? x:=fun x=>rfl
 have hE2:∀ x,((w.alloc (.cells vg (ρ.t 9))).drew).frozen? x=(w.drew.alloc (.cells vg (ρ.t 9))).frozen? x:=fun x=>rfl
 have hF1:∀ x,(((w.alloc (.cells vg (ρ.t 9))).drew.setCells w.heap.size (i*s) vs).drew).cell? x=((w.drew.alloc (.cells vg (ρ.t 9))).setCells w.heap.size (i*s) vs).cell? x:=fun x=>rfl
 have hF2:∀ x,(((w.alloc (.cells vg (ρ.t 9))).drew.setCells w.heap.size (i*s) vs).drew).frozen? x=((w.drew.alloc (.cells vg (ρ.t 9))).setCells w.heap.size (i*s) vs).frozen? x:=fun x=>rfl
 have hw1:IntKind.i64.wrap ((i:Int)+(m:Int))=(i:Int)+(m:Int):=by rw[IntKind.wrap_i64];omega
 have hb1:(0:Int)≤(i:Int)+(m:Int):=by omega
 have fT:i≤n:=by omega
 have htn:((i:Int)+(m:Int)).toNat=i+m:=by omega
 have hb3:(i:Int)≤(n:Int):=by omega
 obtain⟨_,_,FG⟩:=L.FB
 clear hkk hik hold TR hG hRl RJ asB aeR TO TP nQ HG
 go_enter FG,Body2.n22_ntmps ρ
 go_wp2_with (first
  |(at_builtin;refine Lib.wpList_append_run _ rfl _ _ _ _ rfl _ _ rfl rfl _ _ (hrz _) ?_)
  |(at_builtin;refine my _ rfl _ _ (ρ.t 24) (ρ.t 24) rfl _ _ rfl rfl (axw _ hE1 hE2 _ _) ?_)
  |(at_builtin;refine my _ rfl _ _ (ρ.t 24) (ρ.t 24) rfl _ _ rfl rfl (awx _ (fun _=>rfl) (fun _=>rfl) _ _ _) ?_))
 go_region_law_o (refine vG rfl _ _ (ρ.t 24) (ρ.t 24) rfl (.slice (some ⟨w.heap.size,(i+m)*s,none⟩) (n+m - (i+m)) (G - (i+m))) (.slice (some ⟨b,off+i*s,none⟩) (n - i) (c - i)) (by simp[Act.eval,Act.put]) (by simp[Act.eval,Act.put]) (awx _ hF1 hF2 (ρ.t 3) (G - (i+m)) (c - i)) ?_)
 go_wp2
 go_ret
 exact⟨rfl,rfl⟩
end
section
variable {P:Program} {ρ:Ren}
theorem I1 {s i m n:Nat} {base rows dL:List Value} (hbl:(n+m)*s≤base.length) (hrl:rows.length=n*s) (I0:dL.length=m*s) (hi:i≤n) (Jt:∀ q,q<i*s→base[q]?=rows[q]?) (axI:True):
  ((Go.Pv.putCells (Go.Pv.putCells base ((i+m)*s) (rows.drop (i*s))) (i*s) dL).length=base.length∧
   ∀ q,q<(n+m)*s→(Go.Pv.putCells (Go.Pv.putCells base ((i+m)*s) (rows.drop (i*s))) (i*s) dL)[q]?=if q<i*s then rows[q]? else if q<(i+m)*s then dL[q - i*s]? else rows[q - m*s]?)∧
  ((Go.Pv.putCells (Go.Pv.putCells base (i*s) dL) ((i+m)*s) (rows.drop (i*s))).length=base.length∧
   ∀ q,q<(n+m)*s→(Go.Pv.putCells (Go.Pv.putCells base (i*s) dL) ((i+m)*s) (rows.drop (i*s)))[q]?=if q<i*s then rows[q]? else if q<(i+m)*s then dL[q - i*s]? else rows[q - m*s]?):=by
 have e1:(i+m)*s=i*s+m*s:=Nat.add_mul _ _ _
 have e2:(n+m)*s=n*s+m*s:=Nat.add_mul _ _ _
 have e3:i*s≤n*s:=Nat.mul_le_mul_right s hi
 have HG:(rows.drop (i*s)).length=n*s - i*s:=by rw[List.length_drop,hrl]
 refine⟨?_,?_⟩
 ·have p1:(i+m)*s+(rows.drop (i*s)).length≤base.length:=by rw[HG];omega
  have l1:=jy base (rows.drop (i*s)) ((i+m)*s) p1
  have p2:i*s+dL.length≤(Go.Pv.putCells base ((i+m)*s) (rows.drop (i*s))).length:=by rw[l1,I0];omega
  refine⟨by rw[jy _ _ _ p2,l1],fun q hq=>?_⟩
  rw[jx _ _ _ _ p2,jx _ _ _ _ p1,I0,HG]
  by_cases h1:q<i*s
  ·rw[if_pos h1,if_pos (by omega),if_pos h1,Jt q h1]
  ·rw[if_neg h1,if_neg h1]
   by_cases h2:q<(i+m)*s
   ·rw[if_pos (by omega),if_pos h2]
   ·rw[if_neg (by omega),if_neg h2,if_neg h2,if_pos (by omega),List.getElem?_drop]
    congr 1
    omega
 ·have p1:i*s+dL.length≤base.length:=by rw[I0];omega
  have l1:=jy base dL (i*s) p1
  have p2:(i+m)*s+(rows.drop (i*s)).length≤(Go.Pv.putCells base (i*s) dL).length:=by rw[l1,HG];omega
  refine⟨by rw[jy _ _ _ p2,l1],fun q hq=>?_⟩
  rw[jx _ _ _ _ p2,jx _ _ _ _ p1,I0,HG]
  by_cases h1:q<i*s
  ·rw[if_pos (by omega),if_pos h1,if_pos h1,Jt q h1]
  ·rw[if_neg h1]
   by_cases h2:q<(i+m)*s
   ·rw[if_pos h2,if_neg h1,if_pos (by omega),if_pos h2]
   ·rw[if_neg h2,if_pos (by omega),if_neg h1,if_neg h2,List.getElem?_drop]
    congr 1
    omega
theorem aeS {s i m n:Nat} {L rows dL:List Value} (hi:i≤n) (hL:∀ q,q<(n+m)*s→L[q]?=if q<i*s then rows[q]? else if q<(i+m)*s then dL[q - i*s]? else rows[q - m*s]?) (k:Nat) (hk:k<n+m):
  (L.drop (k*s)).take s=if k<i then(rows.drop (k*s)).take s else if k<i+m then(dL.drop ((k - i)*s)).take s else(rows.drop ((k - m)*s)).take s:=by
 have h0:(k+1)*s≤(n+m)*s:=Nat.mul_le_mul_right s hk
 rw[Nat.add_mul,Nat.one_mul] at h0
 apply List.ext_getElem?
 intro q
 rw[m5]
 by_cases hq:q<s
 rotate_left
 ·rw[if_neg hq]
  split
  ·rw[m5,if_neg hq]
  ·split
   ·rw[m5,if_neg hq]
   ·rw[m5,if_neg hq]
 rw[if_pos hq,hL _ (by omega)]
 by_cases h1:k<i
 ·have h2:(k+1)*s≤i*s:=Nat.mul_le_mul_right s h1
  rw[Nat.add_mul,Nat.one_mul] at h2
  rw[if_pos (by omega),if_pos h1,m5,if_pos hq]
 ·have h2:i*s≤k*s:=Nat.mul_le_mul_right s (by omega)
  rw[if_neg (by omega),if_neg h1]
  by_cases h3:k<i+m
  ·have h4:(k+1)*s≤(i+m)*s:=Nat.mul_le_mul_right s h3
   rw[Nat.add_mul,Nat.one_mul] at h4
   rw[if_pos (by omega),if_pos h3,m5,if_pos hq,Nat.sub_mul]
   congr 1
   omega
  ·have h4:(i+m)*s≤k*s:=Nat.mul_le_mul_right s (by omega)
   have h5:m*s≤k*s:=Nat.mul_le_mul_right s (by omega)
   rw[if_neg (by omega),if_neg h3,m5,if_pos hq,Nat.sub_mul]
   congr 1
   omega
variable {w w':World} {H:Nat→Value} {A:Nat→Prop}
theorem PC {B:Nat→Prop} {t:Ty} {e:TypeId} {me:Md} {xs vs:List t.I} {i G C:Nat} {σ eE:Nat→Option Nat} {iu:Array Value} {rows dL:List Value} {τ τv:Nat→Nat} {P0 P2:Nat→Prop} (hi:i≤xs.length)
  (cD:bA w w' (Av σ B) (Av eE B)) (h0:∀ g',P0 g'→eE g'=some 0∧g'≠G∧ ¬P2 g') (h2:∀ g',P2 g'→eE g'=some 0∧g'≠G) (lV:∀ g',P0 g'∨P2 g'→w'.heap[g']?=w.heap[g']?)
  (hG:eE G=some 0) (im:w'.heap[G]?=some (.cells iu e (0,0))) (j8:iu.size=C*t.size) (hC:C≤maxLen) (hnC:xs.length+vs.length≤C)
  (hx:∀ k (hk:k<xs.length),M w (Av σ B) H t me xs[k] ((rows.drop (k*t.size)).take t.size) (fun g'=>P0 g'∧τ g'=k) [])
  (hv:∀ k (hk:k<vs.length),M w (Av σ B) H t me vs[k] ((dL.drop (k*t.size)).take t.size) (fun g'=>P2 g'∧τv g'=k) [])
  (hL:∀ q,q<(xs.length+vs.length)*t.size→iu.toList[q]?=if q<i*t.size then rows[q]? else if q<(i+vs.length)*t.size then dL[q - i*t.size]? else rows[q - vs.length*t.size]?):
  M w' (Av eE B) H (.sl t) (.o e none me) (List.take i xs++vs++List.drop i xs) [.slice (some ⟨G,0,none⟩) (xs.length+vs.length) C] (fun g'=>eE g'=some 0) []:=by
 have hyl:(List.take i xs++vs++List.drop i xs).length=xs.length+vs.length:=by rw[List.length_append,List.length_append,List.length_take,List.length_drop];omega
 have hmi:min i xs.length=i:=by omega
 simp only[M]
 refine .inr (.inr ⟨e,none,me,some ⟨G,0,none⟩,C,rfl,by rw[hyl],by rw[hyl];exact hnC,fun h hh=>(by cases hh),.inr ⟨G,iu,fun g'=>open Classical in if P2 g' then i+τv g' else if τ g'<i then τ g' else τ g'+vs.length,rfl,hG,im,j8,hC,fun k hk=>?_⟩⟩)
 have gA:k<xs.length+vs.length:=by rw[←hyl];exact hk
 rw[aeS hi hL k gA]
 by_cases h1:k<i
 ·rw[if_pos h1]
  have hxk:(List.take i xs++vs++List.drop i xs)[k]'hk=xs[k]'(by omega):=by
   rw[List.getElem_append_left (by rw[List.length_append,List.length_take];omega),List.getElem_append_left (by rw[List.length_take];omega),List.getElem_take]
  rw[hxk]
  refine bj cD t (fun g' bW _=>lV g' (.inl bW.1)) (fun g' bW _=>⟨(h0 g' bW.1).1,(h0 g' bW.1).2.1,?_⟩) (fun p hp=>by simp at hp) (hx k (by omega))
  simp only[(h0 g' bW.1).2.2,if_false,bW.2,h1,if_true]
 ·rw[if_neg h1]
  by_cases h3:k<i+vs.length
  ·rw[if_pos h3]
   have hxk:(List.take i xs++vs++List.drop i xs)[k]'hk=vs[k - i]'(by omega):=by
    rw[List.getElem_append_left (by rw[List.length_append,List.length_take];omega),List.getElem_append_right (by rw[List.length_take];omega)]
    congr 1
    rw[List.length_take]
    omega
   rw[hxk]
   refine bj cD t (fun g' bW _=>lV g' (.inr bW.1)) (fun g' bW _=>⟨(h2 g' bW.1).1,(h2 g' bW.1).2,?_⟩) (fun p hp=>by simp at hp) (hv (k - i) (by omega))
   simp only[bW.1,if_true,bW.2]
   omega
  ·rw[if_neg h3]
   have hxk:(List.take i xs++vs++List.drop i xs)[k]'hk=xs[k - vs.length]'(by omega):=by
    rw[List.getElem_append_right (by rw[List.length_append,List.length_take];omega),List.getElem_drop]
    congr 1
    rw[List.length_append,List.length_take]
    omega
   rw[hxk]
   refine bj cD t (fun g' bW _=>lV g' (.inl bW.1)) (fun g' bW _=>⟨(h0 g' bW.1).1,(h0 g' bW.1).2.1,?_⟩) (fun p hp=>by simp at hp) (hx (k - vs.length) (by omega))
   have h9: ¬k - vs.length<i:=by omega
   simp only[(h0 g' bW.1).2.2,if_false,bW.2,h9]
   omega
end
section
variable {P:Program} {ρ:Ren} {w w':World} {H:Nat→Value} {A:Nat→Prop}
theorem aeT {Γ:Gl} {B:Nat→Prop} {t:Ty} {m m2:Md} {xs vs:List t.I} {i:Int} {σ:Nat→Option Nat} {cW:List Value} (fT:In Γ B H w σ [.tv ⟨.sl t,m,xs⟩,.tv ⟨.int .i64,.k,i⟩,.tv ⟨.sl t,m2,vs⟩] cW):
  ∃ v v2,cW=[v,.int .i64 i,v2]∧M w (Av σ B) H (.sl t) m xs [v] (fun g=>σ g=some 0) []∧M w (Av σ B) H (.sl t) m2 vs [v2] (fun g=>σ g=some 2) []:=by
 obtain⟨v,hv,cs,h1,h2⟩:=fT.ok 0 _ rfl
 obtain⟨v1,hv1,cs1,h3,h4⟩:=fT.ok 1 _ rfl
 obtain⟨v2,Nk,cs2,h5,h6⟩:=fT.ok 2 _ rfl
 have iY:cs=[v]:=by simpa[aE,isAgg] using h1
 subst iY
 have iY:cs2=[v2]:=by simpa[aE,isAgg] using h5
 subst iY
 refine⟨v,v2,?_,h2,h6⟩
 simp only[M] at h4
 have e1:=dV h3 h4.2
 subst e1
 have hl:=fT.len
 match cW,hl,hv,hv1,Nk with
 |[a,b,c],_,hv,hv1,Nk=>simp at hv hv1 Nk;rw[hv,hv1,Nk]
theorem I2 {t:Ty} {e:TypeId} {me:Md} {xs:List t.I} {v:Value} {ow:Nat→Prop} (h:M w A H (.sl t) (.o e none me) xs [v] ow []):
  ∃ X c,v=.slice X xs.length c∧xs.length≤c∧((xs=[]∧c=0)∨∃ (g:Nat) (cur:Array Value) (τ:Nat→Nat),X=some ⟨g,0,none⟩∧ow g∧w.heap[g]?=some (.cells cur e (0,0))∧cur.size=c*t.size∧c≤maxLen∧
   ∀ k (hk:k<xs.length),M w A H t me xs[k] ((cur.toList.drop (k*t.size)).take t.size) (fun g'=>(ow g'∧g'≠g)∧τ g'=k) []):=by
 simp only[M] at h
 rcases h with⟨hn,_⟩ |⟨hk,_⟩ |⟨T,acr,me',X,c,e1,e2,hc,ht,h⟩
 ·simp at hn
 ·simp[Md.cy] at hk
 injection e1 with e1 Bg qF
 subst e1 Bg qF
 injection e2 with e2 _
 subst e2
 refine⟨X,c,rfl,hc,?_⟩
 rcases h with h |⟨g,cur,τ,rfl,hg,hw,hs,hm,vX⟩
 ·exact .inl h
 ·refine .inr ⟨g,cur,τ,rfl,hg,hw,hs,hm,fun k hk=>?_⟩
  have:=vX k hk
  refine bj (w:=w) ⟨fun _ _ _=>rfl,fun _ _ h=>h⟩ t (fun _ _ _=>rfl) (fun g' bW _=>⟨⟨bW.1,bW.2.1⟩,bW.2.2⟩) (fun p hp=>by simp[sub] at hp) this
theorem KI {g o:Nat} {cur:Array Value} {e:TypeId} (hw:w.heap[g]?=some (.cells cur e (0,0))):w.frozen? ⟨g,o,none⟩=false:=by simp[World.frozen?,hw]
theorem aeU {g o:Nat} {cur:Array Value} {e:TypeId} {v:Value} (hw:w.heap[g]?=some (.cells cur e (0,0))) (h:cur.toList[o]?=some v):w.cell? ⟨g,o,none⟩=some v:=by
 rw[Array.getElem?_toList] at h
 simp[World.cell?,hw,h]
theorem yN {Γ:Gl} {t:Ty} {zs:Array Value} {i0:TypeInfo} (L:IZ P ρ t.size zs i0) (me:Md) (axs:gS t me=true):Sound Γ P (ρ.f 22) (aF [.v (.sl t) (.o (ρ.t 9) none me),.v (.int .i64) .k,.v (.sl t) (.o (ρ.t 9) none me)]
  fun x kf=>bif decide (0≤x.2.1)&&(decide (x.2.1≤(List.length x.1:Int))&&(Nat.blt 0 (List.length x.2.2.1)&&Nat.ble ((List.length x.1+List.length x.2.2.1)*t.size) 4398046511104)) then kf ⟨[⟨.sl t,.o (ρ.t 9) none me,List.take (Int.toNat x.2.1) x.1++x.2.2.1++List.drop (Int.toNat x.2.1) x.1⟩],[]⟩ else none):=by
 refine⟨?_,fun al=>?_⟩
 rotate_left
 ·unfold aF
  split
  ·exact dp.bif _ (dp.pure _) dp.none
  ·exact dp.none
 intro args kf ret w σ cW H B hr fT
 unfold aF at hr
 split at hr
 case h_2=>cases hr
 rename_i x hx
 have:=kI _ args hx
 subst this
 rcases x with⟨xs,(ii:Int),vs,u⟩
 simp only[eB] at fT hr
 cases vp:(decide (0≤ii)&&(decide (ii≤(List.length xs:Int))&&(Nat.blt 0 (List.length vs)&&Nat.ble ((List.length xs+List.length vs)*t.size) 4398046511104))) with
 |false=>rw[vp] at hr;cases hr
 |true=>
 rw[vp] at hr
 simp only[cond_true] at hr
 simp only[Bool.and_eq_true,decide_eq_true_eq] at vp
 obtain⟨JB,hi1,Zd,aaL⟩:=vp
 have Zd:0<List.length vs:=by rwa [Nat.blt_eq] at Zd
 have aaL:(List.length xs+List.length vs)*t.size≤4398046511104:=by rwa [Nat.ble_eq] at aaL
 obtain⟨i,rfl⟩:∃ i:Nat,ii=(i:Int):=⟨ii.toNat,by omega⟩
 have hi:i≤List.length xs:=by omega
 simp only[Int.toNat_natCast] at hr
 obtain⟨v,v2,rfl,hx1,nb⟩:=aeT fT
 have hMx:=hx1
 obtain⟨X,c,rfl,hc,hX⟩:=I2 hx1
 obtain⟨X2,vc,rfl,hvc,hX2⟩:=I2 nb
 rcases hX2 with⟨h0,_⟩ |⟨vb,asC,τv,rfl,hvg,hvw,hvs,hvm,awy⟩
 ·rw[h0] at Zd;simp at Zd
 have RO:(callFunc (ρ.f 22) [Value.slice X (List.length xs) c,.int .i64 i,Value.slice (some ⟨vb,0,none⟩) (List.length vs) vc].toArray).run P w=.ok (.enter (ρ.f 22) [Value.slice X (List.length xs) c,.int .i64 i,Value.slice (some ⟨vb,0,none⟩) (List.length vs) vc].toArray) w:=L.FB.enters rfl _ w
 have hmx:maxLen=9223372036854775807:=rfl
 have DH:0<t.size:=L.DH
 have acJ:xs.length+vs.length≤4398046511104:=Nat.le_trans (Nat.le_mul_of_pos_right _ DH) aaL
 have KH:c≤9223372036854775807∧(X=none→c=0):=by
  rcases hX with⟨_,h⟩ |⟨g,cur,τ,rfl,hg,hw,hs,hm,vX⟩
  ·exact⟨by omega,fun _=>h⟩
  ·exact⟨by omega,fun hx=>by cases hx⟩
 have hms:vs.length*t.size≤vc*t.size:=Nat.mul_le_mul_right _ hvc
 have hvt:asC.toList.length=vc*t.size:=by simpa using hvs
 obtain⟨dL,hvr⟩:∃ dL,dL=asC.toList.take (vs.length*t.size):=⟨_,rfl⟩
 have I0:dL.length=vs.length*t.size:=by rw[hvr,List.length_take,hvt];omega
 have aeV:∀ k (hk:k<vs.length),M w (Av σ B) H t me vs[k] ((dL.drop (k*t.size)).take t.size) (fun g'=>(σ g'=some 2∧g'≠vb)∧τv g'=k) []:=fun k hk=>by
  rw[hvr,pH hk]
  exact awy k hk
 have h1v:∀ u∈dL,u.oneCell'=true:=by
  rw[hvr]
  exact pI vs.length fun k hk u hu=>(fI t (awy k hk)).2 u hu
 have aeW:∀ j u,dL[j]?=some u→w.cell? ⟨vb,0+j,none⟩=some u:=fun j u hj=>by
  rw[hvr,List.getElem?_take] at hj
  split at hj
  ·rw[Nat.zero_add];exact aeU hvw hj
  ·cases hj
 have axJ:Own σ vb:=⟨2,hvg⟩
 by_cases heq:i=xs.length
 ·-- at the end
  subst heq
  have s4:Src P t.size (ρ.t 24) (.slice (some ⟨vb,0,none⟩) vs.length vc) vs.length dL w:=Src.ofSlice w L.t24 ⟨vb,0,none⟩ vs.length vc dL I0 (fun j u hu=>by rw[Addr.add_lit];exact aeW j u hu) h1v
  obtain⟨v',w',de,_,hM',lV,awz,hle,hos,awA,HI⟩:=yj (P:=P) (Θ:=[]) rfl (T:=ρ.t 24) (T':=ρ.t 24) (ty:=ρ.t 24) L.t24 L.JB L.hz0 L.Jp L.hby (by show zs.size=_;exact L.hz) DH hMx s4 aeV (fun g' h1 h2=>by rw[h1] at h2;cases h2.1) (fun g' h=>.inl ⟨0,h⟩) (fun g' h=>(fT.lt g' 0 h).2) (fun g' h=>(fT.lt g' 2 h.1).2) aaL
  have cQ:∀ ty,(Builtin.append_ #[(ρ.t 24),(ρ.t 24)] ty #[.slice X xs.length c,.slice (some ⟨vb,0,none⟩) vs.length vc]).run P w=.ok v' w':=fun ty=>by assumption
  refine .inl ⟨RO,(TQ L X xs.length c vb 0 vs.length vc w w' v' Zd hc KH.1 KH.2 cQ).mono fun en w2 he=>?_⟩
  obtain⟨rfl,rfl⟩:=he
  refine⟨_,hr,⟨hos,awA,HI,hle,fun g' cZ Zm=>lV g' cZ fun e=>Zm ⟨0,e⟩⟩,fun g'=>open Classical in if de g' then some 0 else none,[v'],rfl,rfl,fun g' q bW=>?_,fun q b hb=>?_,fun d hd=>(by cases hd)⟩
  ·by_cases h:de g'
   ·obtain⟨h1,h2⟩:=awz g' h
    refine⟨?_,h1⟩
    rcases h2 with h2 |h2 |h2
    ·exact .inr ⟨0,h2⟩
    ·exact .inr ⟨2,h2.1⟩
    ·exact .inl h2
   ·simp only[h,if_false] at bW;cases bW
  ·cases q with
   |succ q=>simp at hb
   |zero=>
    simp only[List.getElem?_cons_zero,Option.some.injEq] at hb
    subst hb
    refine⟨v',[v'],rfl,by simp[aE,isAgg],?_⟩
    have e3:List.take xs.length xs++vs++List.drop xs.length xs=xs++vs:=by rw[List.take_length,List.drop_length,List.append_nil]
    simp only[e3]
    refine bj (w:=w2) ⟨fun _ _ _=>rfl,fun g' bW hx=>?_⟩ (.sl t) (fun _ _ _=>rfl) (fun g' bW _=>by simp only[bW,if_true]) (fun _ h=>h) hM'
    rcases hx with⟨q,hq⟩ |hz
    rotate_left
    ·exact .inl (.inr hz)
    by_cases h:de g'
    ·obtain⟨h1,h2⟩:=awz g' h
     rcases h2 with h2 |h2 |h2
     ·exact .inl (.inl ⟨0,h2⟩)
     ·exact .inl (.inl ⟨2,h2.1⟩)
     ·exact .inr h2
    ·simp only[h,if_false] at hq;cases hq
 have akn:i<xs.length:=by omega
 rcases hX with⟨h0,_⟩ |⟨g,cur,τ,rfl,hg,hw,hs,hm,vX⟩
 ·rw[h0] at akn;simp at akn
 have hgv:vb≠g:=fun e=>by rw[e,hg] at hvg;cases hvg
 have hns:xs.length*t.size≤c*t.size:=Nat.mul_le_mul_right _ hc
 have hct:cur.toList.length=c*t.size:=by simpa using hs
 obtain⟨rows,hrw⟩:∃ rows,rows=cur.toList.take (xs.length*t.size):=⟨_,rfl⟩
 have j9:rows.length=xs.length*t.size:=by rw[hrw,List.length_take,hct];omega
 have iV:∀ k (hk:k<xs.length),M w (Av σ B) H t me xs[k] ((rows.drop (k*t.size)).take t.size) (fun g'=>(σ g'=some 0∧g'≠g)∧τ g'=k) []:=fun k hk=>by
  rw[hrw,pH hk]
  exact vX k hk
 have h1c:∀ u∈rows,u.oneCell'=true:=by
  rw[hrw]
  exact pI xs.length fun k hk u hu=>(fI t (vX k hk)).2 u hu
 have fU:∀ j u,rows[j]?=some u→w.cell? ⟨g,0+j,none⟩=some u:=fun j u hj=>by
  rw[hrw,List.getElem?_take] at hj
  split at hj
  ·rw[Nat.zero_add];exact aeU hw hj
  ·cases hj
 have axx:g<w.heap.size:=bT hw
 have axy:vb<w.heap.size:=bT hvw
 have RJ:i*t.size≤xs.length*t.size:=Nat.mul_le_mul_right _ hi
 have HG:(rows.drop (i*t.size)).length=xs.length*t.size - i*t.size:=by rw[List.length_drop,j9]
 have em:(i+vs.length)*t.size=i*t.size+vs.length*t.size:=Nat.add_mul _ _ _
 have en:(xs.length+vs.length)*t.size=xs.length*t.size+vs.length*t.size:=Nat.add_mul _ _ _
 have hdo:∀ u∈rows.drop (i*t.size),u.oneCell'=true:=fun u hu=>h1c u (List.mem_of_mem_drop hu)
 by_cases s5:xs.length+vs.length≤c
 ·-- room
  have hrs:(xs.length+vs.length)*t.size≤c*t.size:=Nat.mul_le_mul_right _ s5
  have axz:w.drew.heap[g]?=some (.cells cur (ρ.t 9) (0,0)):=hw
  refine .inl ⟨RO,(KG L g 0 xs.length c i vb 0 vs.length vc rows dL w akn Zd s5 KH.1 hgv j9 I0 fU (fun j hj=>by
    rw[Nat.zero_add]
    have:j<cur.size:=by omega
    simp[World.cell?,hw,this]) (fun j hj=>KI hw) aeW h1c h1v (ρ.t 9) (ρ.t 9) asC.size cur.size (by simp[World.shape?,hvw]) (by simp[World.shape?,hw]) (fun h=>by have h1:0<c*t.size:=Nat.mul_pos (by omega) DH;omega) (KI hvw) (KI hvw)).mono fun en w2 he=>?_⟩
  obtain⟨rfl,sH⟩:=he
  simp only[Nat.zero_add] at sH
  have hp1:(i+vs.length)*t.size+(rows.drop (i*t.size)).length≤cur.size:=by rw[HG];omega
  have hL1:=jy cur.toList (rows.drop (i*t.size)) ((i+vs.length)*t.size) (by simpa using hp1)
  rw[dN (w:=w.drew) (g:=g) (t:=ρ.t 9) (cur:=cur) hw hp1 hdo,
   dN (g:=g) (t:=ρ.t 9) (cur:=(Go.Pv.putCells cur.toList ((i+vs.length)*t.size) (rows.drop (i*t.size))).toArray) (setRow_heap w.drew g cur _ (ρ.t 9) (0,0) hw) (by rw[List.size_toArray,hL1,I0,hct];omega) h1v,setRow_setRow] at sH
  subst sH
  simp only[List.toList_toArray]
  obtain⟨d1,d2⟩:=(I1 (s:=t.size) (i:=i) (m:=vs.length) (n:=xs.length) (base:=cur.toList) (rows:=rows) (dL:=dL) (by rw[hct];omega) j9 I0 hi (fun q hq=>by rw[hrw,List.getElem?_take,if_pos (by omega)]) trivial).1
  obtain⟨iu,Pz⟩:∃ iu,iu=Go.Pv.putCells (Go.Pv.putCells cur.toList ((i+vs.length)*t.size) (rows.drop (i*t.size))) (i*t.size) dL:=⟨_,rfl⟩
  rw[←Pz] at d1 d2 ⊢
  have im:(w.drew.setRow g iu.toArray).heap[g]?=some (.cells iu.toArray (ρ.t 9) (0,0)):=setRow_heap w.drew g cur _ (ρ.t 9) (0,0) hw
  have mm:∀ g',g'≠g→(w.drew.setRow g iu.toArray).heap[g']?=w.heap[g']?:=fun g' h=>setRow_other w.drew g g' _ h
  have TM:(w.drew.setRow g iu.toArray).heap.size=w.heap.size:=setRow_size w.drew g _
  let eE:Nat→Option Nat:=fun g'=>if σ g'=some 0∨σ g'=some 2 then some 0 else none
  have TN:∀ g' q,eE g'=some q↔(σ g'=some 0∨σ g'=some 2)∧q=0:=fun g' q=>by
   simp only[eE]
   split
   ·rename_i h;exact⟨fun e=>⟨h,by injection e with e;exact e.symm⟩,fun e=>by rw[e.2]⟩
   ·rename_i h;exact⟨fun e=>(by cases e),fun e=>absurd e.1 h⟩
  have aaM:∀ g' q,eE g'=some q→Own σ g':=fun g' q h=>by
   rcases((TN g' q).1 h).1 with h |h
   ·exact⟨0,h⟩
   ·exact⟨2,h⟩
  refine⟨_,hr,⟨rfl,rfl,rfl,by rw[TM];exact Nat.le_refl _,fun g' _ Zm=>mm g' fun e=>Zm ⟨0,by rw[e];exact hg⟩⟩,eE,[.slice (some ⟨g,0,none⟩) (xs.length+vs.length) c],rfl,rfl,fun g' q bW=>⟨.inr (aaM g' q bW),by obtain⟨q',sz⟩:=aaM g' q bW;rw[TM];exact(fT.lt g' q' sz).2⟩,fun q b hb=>?_,fun d hd=>(by cases hd)⟩
  cases q with
  |succ q=>simp at hb
  |zero=>
   simp only[List.getElem?_cons_zero,Option.some.injEq] at hb
   subst hb
   refine⟨_,[.slice (some ⟨g,0,none⟩) (xs.length+vs.length) c],rfl,by simp[aE,isAgg],?_⟩
   have cD:bA w (w.drew.setRow g iu.toArray) (Av σ B) (Av eE B):=⟨fun g' Zm _=>mm g' fun e=>Zm (.inl ⟨0,by rw[e];exact hg⟩),fun g' _ bW=>bW.imp (fun⟨q,hq⟩=>aaM g' q hq) id⟩
   refine PC (P0:=fun g'=>σ g'=some 0∧g'≠g) (P2:=fun g'=>σ g'=some 2∧g'≠vb) hi cD (fun g' h=>⟨(TN g' 0).2 ⟨.inl h.1,rfl⟩,h.2,fun e=>by rw[h.1] at e;cases e.1⟩)
    (fun g' h=>⟨(TN g' 0).2 ⟨.inr h.1,rfl⟩,fun e=>by rw[e,hg] at h;cases h.1⟩) (fun g' h=>mm g' ?_) ((TN g 0).2 ⟨.inl hg,rfl⟩) im (by rw[List.size_toArray,d1,hct]) hm s5 iV aeV (by rw[List.toList_toArray];exact d2)
   rcases h with h |h
   ·exact h.2
   ·intro e;rw[e,hg] at h;cases h.1
 ·have acK:(xs.length+vs.length)*i0.bytes≤140737488355328:=by
   have e1:(xs.length+vs.length)*i0.bytes≤(xs.length+vs.length)*(32*t.size):=Nat.mul_le_mul_left _ L.hby
   have e2:(xs.length+vs.length)*(32*t.size)=32*((xs.length+vs.length)*t.size):=by rw[Nat.mul_left_comm]
   omega
  refine .inl ⟨RO,(PB L g 0 xs.length c i vb 0 vs.length vc rows dL w akn Zd hc (by omega) KH.1 acK acJ j9 I0 axx axy fU aeW h1c h1v).mono fun en w2 he=>?_⟩
  obtain⟨rfl,sH⟩:=he
  obtain⟨G,hG⟩:∃ G,G=grownCap w (xs.length+vs.length) c (ρ.t 9):=⟨_,rfl⟩
  have hGn:xs.length+vs.length≤G:=by rw[hG];exact grownCap_ge w _ _ _
  have hGm:G≤maxLen:=by rw[hG];exact grownCap_le_maxLen w (xs.length+vs.length) c (ρ.t 9) (by omega)
  rw[←hG] at sH ⊢
  obtain⟨vg,TR⟩:∃ vg:Array Value,vg=(rows.take (i*t.size)).toArray++Builtin.zeroCells zs (xs.length+vs.length - i)++Builtin.zeroCells zs (G - (xs.length+vs.length)):=⟨_,rfl⟩
  rw[←TR] at sH
  have hRs:vg.size=G*t.size:=by
   have e1:i*t.size+(xs.length+vs.length - i)*t.size+(G - (xs.length+vs.length))*t.size=G*t.size:=by rw[←Nat.add_mul,←Nat.add_mul];congr 1;omega
   rw[TR,Array.size_append,Array.size_append,List.size_toArray,List.length_take,j9]
   simp only[Builtin.zeroCells,Array.size_map,Array.size_range,L.hz]
   omega
  have awB:∀ q,q<i*t.size→vg.toList[q]?=rows[q]?:=fun q hq=>by
   rw[TR,Array.toList_append,Array.toList_append,List.toList_toArray,List.append_assoc,List.getElem?_append_left (by rw[List.length_take,j9];omega),List.getElem?_take,if_pos hq]
  have hRt:vg.toList.length=G*t.size:=by simpa using hRs
  have hGs:(xs.length+vs.length)*t.size≤G*t.size:=Nat.mul_le_mul_right _ hGn
  have hA0:((w.alloc (.cells vg (ρ.t 9))).drew).heap[w.heap.size]?=some (.cells vg (ρ.t 9) (0,0)):=heap_alloc_new w _
  have hp1:i*t.size+dL.length≤vg.size:=by rw[I0,hRs];omega
  have hL1:=jy vg.toList dL (i*t.size) (by simpa using hp1)
  rw[dN (w:=(w.alloc (.cells vg (ρ.t 9))).drew) (g:=w.heap.size) (t:=ρ.t 9) (cur:=vg) hA0 hp1 h1v] at sH
  have hA1:(((w.alloc (.cells vg (ρ.t 9))).drew.setRow w.heap.size (Go.Pv.putCells vg.toList (i*t.size) dL).toArray).drew).heap[w.heap.size]?=some (.cells (Go.Pv.putCells vg.toList (i*t.size) dL).toArray (ρ.t 9) (0,0)):=setRow_heap _ _ vg _ (ρ.t 9) (0,0) hA0
  rw[dN (g:=w.heap.size) (t:=ρ.t 9) (cur:=(Go.Pv.putCells vg.toList (i*t.size) dL).toArray) hA1 (by rw[List.size_toArray,hL1,HG,hRt];omega) hdo] at sH
  simp only[List.toList_toArray] at sH
  obtain⟨d1,d2⟩:=(I1 (s:=t.size) (i:=i) (m:=vs.length) (n:=xs.length) (base:=vg.toList) (rows:=rows) (dL:=dL) (by rw[hRt];omega) j9 I0 hi awB trivial).2
  obtain⟨iu,Pz⟩:∃ iu,iu=Go.Pv.putCells (Go.Pv.putCells vg.toList (i*t.size) dL) ((i+vs.length)*t.size) (rows.drop (i*t.size)):=⟨_,rfl⟩
  rw[←Pz] at d1 d2 sH
  have im:w2.heap[w.heap.size]?=some (.cells iu.toArray (ρ.t 9) (0,0)):=by rw[sH];exact setRow_heap _ _ _ _ (ρ.t 9) (0,0) hA1
  have mm:∀ g',g'<w.heap.size→w2.heap[g']?=w.heap[g']?:=fun g' h=>by
   rw[sH,setRow_other _ _ _ _ (by omega)]
   show(World.setRow _ _ _).heap[g']?=_
   rw[setRow_other _ _ _ _ (by omega)]
   exact heap_alloc_old w _ h
  have TM:w2.heap.size=w.heap.size+1:=by
   rw[sH,setRow_size]
   show(World.setRow _ _ _).heap.size=_
   rw[setRow_size]
   show(w.alloc _).heap.size=_
   simp
  have r9:w2.os=w.os∧w2.tape=w.tape∧w2.output=w.output:=by rw[sH];exact⟨rfl,rfl,rfl⟩
  let eE:Nat→Option Nat:=fun g'=>if σ g'=some 0∨σ g'=some 2∨g'=w.heap.size then some 0 else none
  have TN:∀ g' q,eE g'=some q↔(σ g'=some 0∨σ g'=some 2∨g'=w.heap.size)∧q=0:=fun g' q=>by
   simp only[eE]
   split
   ·rename_i h;exact⟨fun e=>⟨h,by injection e with e;exact e.symm⟩,fun e=>by rw[e.2]⟩
   ·rename_i h;exact⟨fun e=>(by cases e),fun e=>absurd e.1 h⟩
  have aaM:∀ g' q,eE g'=some q→Own σ g'∨g'=w.heap.size:=fun g' q h=>by
   rcases((TN g' q).1 h).1 with h |h |h
   ·exact .inl ⟨0,h⟩
   ·exact .inl ⟨2,h⟩
   ·exact .inr h
  refine⟨_,hr,⟨r9.1,r9.2.1,r9.2.2,by rw[TM];omega,fun g' h _=>mm g' h⟩,eE,[.slice (some ⟨w.heap.size,0,none⟩) (xs.length+vs.length) G],rfl,rfl,fun g' q bW=>?_,fun q b hb=>?_,fun d hd=>(by cases hd)⟩
  ·rcases aaM g' q bW with h |h
   ·refine⟨.inr h,?_⟩
    obtain⟨q',sz⟩:=h
    have:=(fT.lt g' q' sz).2
    omega
   ·exact⟨.inl (by omega),by omega⟩
  cases q with
  |succ q=>simp at hb
  |zero=>
   simp only[List.getElem?_cons_zero,Option.some.injEq] at hb
   subst hb
   refine⟨_,[.slice (some ⟨w.heap.size,0,none⟩) (xs.length+vs.length) G],rfl,by simp[aE,isAgg],?_⟩
   have cD:bA w w2 (Av σ B) (Av eE B):=⟨fun g' _ h=>mm g' h,fun g' h bW=>bW.imp (fun⟨q,hq⟩=>(aaM g' q hq).resolve_right (by omega)) id⟩
   refine PC (P0:=fun g'=>σ g'=some 0∧g'≠g) (P2:=fun g'=>σ g'=some 2∧g'≠vb) hi cD (fun g' h=>⟨(TN g' 0).2 ⟨.inl h.1,rfl⟩,fun e=>?_,fun e=>by rw[h.1] at e;cases e.1⟩)
    (fun g' h=>⟨(TN g' 0).2 ⟨.inr (.inl h.1),rfl⟩,fun e=>?_⟩) (fun g' h=>mm g' ?_) ((TN w.heap.size 0).2 ⟨.inr (.inr rfl),rfl⟩) im (by rw[List.size_toArray,d1,hRt]) hGm hGn iV aeV (by rw[List.toList_toArray];exact d2)
   ·have:=(fT.lt g' 0 h.1).2;omega
   ·have:=(fT.lt g' 2 h.1).2;omega
   ·rcases h with h |h
    ·exact(fT.lt g' 0 h.1).2
    ·exact(fT.lt g' 2 h.1).2
end
end Go.Pv
