/- Functions of the library (Ins): what is told of them holds. -/
import Derived.Test.YtcpakhaogbempaaGreatDel
import Derived.Shelf.Lays2
import Derived.Lib.JoinLaws
import Derived.Lib.AppendZeros
import Derived.Lib.AppendZerosOnto
import Derived.Lib.Overlaps
import Derived.Laws.Externs
import Derived.Laws.IdiomCopy
import Derived.Laws.NewBlocks
namespace Go.Pv
open Go.Shelf Go.RowKit Go.Proofs
set_option linter.unusedVariables false
set_option linter.unusedSimpArgs false
section
variable {P:Program} {ρ:Ren}
theorem kK (w:World) (dT sT ty elem:TypeId) (b o arV aw7:Nat) (a:Addr) (arW aw8:Nat) (cs:List Value) (s:Nat)
  (hu:P.underlying dT=some (.slice elem)) (hs:(P.info? elem).map (·.size)=some s) (hn:cs.length=Nat.min arW arV*s)
  (rY:∀ j v,cs[j]?=some v→w.cell? (a.add j)=some v) (hc:∀ j,j<cs.length→(w.cell? ⟨b,o+j,none⟩).isSome=true) (hf:∀ j,j<cs.length→w.frozen? ⟨b,o+j,none⟩=false) (h1:∀ v∈cs,v.oneCell'=true):
  (Builtin.copy_ #[dT,sT] ty #[.slice (some ⟨b,o,none⟩) arV aw7,.slice (some a) arW aw8]).run P w=.ok (goInt (Nat.min arW arV)) (w.setCells b o cs):=by
 have hl:=run_loadCells_list (P:=P) w a cs rY
 have bO:=run_storeCells_cells (P:=P) b o cs 0 w (by simpa using hc) (by simpa using hf) h1
 cases hq:P.info? elem with
 |none=>simp[hq] at hs
 |some i=>
  have hi:i.size=s:=by simpa[hq] using hs
  simp[Builtin.copy_,run_underlying hu,Builtin.lenOf,Builtin.firstCells,sizeOf,typeInfo,hq,hi,←hn,hl,bO]
theorem OI (w:World) {o:Oper} {a:Act} {K:Act→World→Prop} {Q:Exit→Act→World→Prop} (d s:Operand) (t t':TypeId)
  (ho:o.op=.call { callee:=.builtin .copy,args:=#[d,s],argTypes:=#[t,t'] }) (v u:Value) (hd:a.eval d=v) (hs:a.eval s=u) {v':Value} {w':World}
  (hr:(Builtin.copy_ #[t,t'] o.type #[v,u]).run P w=.ok v' w') (h:K (a.put o.dst v') w'):o.wp P a w K Q:=by
 unfold Oper.wp execOp
 simp only[ho,resolve,invoke,builtin,Sem.run_bind,Sem.run_pure,Result.andThen_ok,List.map_toArray,List.map_cons,List.map_nil,hd,hs,hr]
 exact h
theorem lx (w:World) {ops:Array Oper} {rest:List Oper} {o:Oper} {a:Act} {Q:Exit→Act→World→Prop} (hgd:o.guard=none) (d s:Operand) (t t':TypeId)
  (ho:o.op=.call { callee:=.builtin .copy,args:=#[d,s],argTypes:=#[t,t'] }) (v u:Value) (hd:a.eval d=v) (hs:a.eval s=u) {v':Value} {w':World}
  (hr:(Builtin.copy_ #[t,t'] o.type #[v,u]).run P w=.ok v' w') (h:wpList P ops Q rest (a.put o.dst v') w'):wpList P ops Q (o::rest) a w:=
 wpList_plain hgd fun _ hK=>OI w d s t t' ho v u hd hs hr (hK _ _ h)
theorem uL {ops:Array Oper} {o:Oper} {a:Act} {w:World} {K:Act→World→Prop} {Q:Exit→Act→World→Prop} {E:Prop}
  (hg:o.guard=none) (d x:Operand) (dT sT:TypeId) (bK:o.op=Op.call { callee:=Callee.builtin Builtin.copy,args:=#[d,x],argTypes:=#[dT,sT] })
  (v u:Value) (hd:a.eval d=v) (hx:a.eval x=u) {v':Value} {w':World} (hr:(Builtin.copy_ #[dT,sT] o.type #[v,u]).run P w=.ok v' w') (hK:K (a.put o.dst v') w'):
  if Region.wanted o (yielded ops a.tmps)=true then Oper.wp P o a w K Q else E:=by
 have hw:Region.wanted o (yielded ops a.tmps)=true:=by simp[Region.wanted,hg]
 rw[if_pos hw]
 unfold Oper.wp
 simp[execOp,bK,resolve,invoke,builtin,hd,hx,hr,Result.andThen]
 exact hK
structure It (P:Program) (ρ:Ren) (s:Nat) (zs:Array Value) (i0:TypeInfo):Prop where
 mixed:P.follows .mixedOrders=true
 FB:Bears P (ρ.f 22) (Body2.n22 ρ)
 FO : ∃ fn : Func, P.funcs[ρ.f 29]? = some fn ∧ (fn.name == "runtime.NumGoroutine") = false ∧ fn.body.isNone = true ∧ Extern.findNext fn = none ∧ Extern.find fn = some (Extern.SlicesOverlaps.overlaps #[ρ.t 24, ρ.t 24] #[ρ.t 4])
 t0:P.underlying (ρ.t 0)=some (TypeDesc.tuple #[])
 a0:∀ w,(Go.isAgg (ρ.t 0)).run P w=.ok false w
 z0:∀ w,(Go.sizeOf (ρ.t 0)).run P w=.ok 1 w
 v0:∀ w,(zeroValue (ρ.t 0)).run P w=.ok (Value.tuple #[]) w
 t3:P.underlying (ρ.t 3)=some (TypeDesc.int IntKind.i64)
 a3:∀ w,(Go.isAgg (ρ.t 3)).run P w=.ok false w
 z3:∀ w,(Go.sizeOf (ρ.t 3)).run P w=.ok 1 w
 v3:∀ w,(zeroValue (ρ.t 3)).run P w=.ok (Value.int IntKind.i64 0) w
 t4:P.underlying (ρ.t 4)=some (TypeDesc.bool)
 a4:∀ w,(Go.isAgg (ρ.t 4)).run P w=.ok false w
 z4:∀ w,(Go.sizeOf (ρ.t 4)).run P w=.ok 1 w
 v4:∀ w,(zeroValue (ρ.t 4)).run P w=.ok (Value.bool false) w
 t24:P.underlying (ρ.t 24)=some (TypeDesc.slice (ρ.t 9))
 a24:∀ w,(Go.isAgg (ρ.t 24)).run P w=.ok false w
 z24:∀ w,(Go.sizeOf (ρ.t 24)).run P w=.ok 1 w
 v24:∀ w,(zeroValue (ρ.t 24)).run P w=.ok (Value.slice none 0 0) w
 z9:∀ w,(Go.sizeOf (ρ.t 9)).run P w=.ok s w
 hz:zs.size=s
 hzo:zs.toList.all (fun u=>u.oneCell')=true
 I8:P.info? (ρ.t 9)=some i0
 hz0:i0.zero=some (.agg zs)
 IW:i0.size=s
 hby:i0.bytes≤32*s
 Dd:0<s
variable {s:Nat} {zs:Array Value} {i0:TypeInfo}
set_option maxHeartbeats 4000000 in
set_option maxRecDepth 100000 in
theorem J0 (L:It P ρ s zs i0) (b off n c i vb vQ m vc:Nat) (cs vs:List Value) (w:World) (hi:i<n) (hm:0<m) (rZ:n+m≤c) (J1:c≤9223372036854775807) (hvb:vb≠b)
  (iY:cs.length=n*s) (Iu:vs.length=m*s)
  (gP:∀ j v,cs[j]?=some v→w.cell? ⟨b,off+j,none⟩=some v) (hsp:∀ j,j<(n+m)*s→(w.cell? ⟨b,off+j,none⟩).isSome=true) (hfz:∀ j,j<(n+m)*s→w.frozen? ⟨b,off+j,none⟩=false)
  (hvs:∀ j v,vs[j]?=some v→w.cell? ⟨vb,vQ+j,none⟩=some v) (h1c:∀ v∈cs,v.oneCell'=true) (h1v:∀ v∈vs,v.oneCell'=true)
  (tA tB:TypeId) (kA kB:Nat) (hsa:w.shape? vb=some (tA,kA)) (hsb:w.shape? b=some (tB,kB)) (hkB:kB≠0) (hfa:w.frozen? ⟨vb,vQ,none⟩=false) (hfe:w.frozen? ⟨vb,kA,none⟩=false):
  Calls P (ρ.f 22) #[.slice (some ⟨b,off,none⟩) n c,.int .i64 i,.slice (some ⟨vb,vQ,none⟩) m vc] w fun e w'=>
   e=.returned (.slice (some ⟨b,off,none⟩) (n+m) c)∧w'=(w.drew.setCells b (off+(i+m)*s) (cs.drop (i*s))).setCells b (off+i*s) vs:=by
 have t0:=L.t0;have a0:=L.a0;have z0:=L.z0;have v0:=L.v0;have t3:=L.t3;have a3:=L.a3;have z3:=L.z3;have v3:=L.v3;have t4:=L.t4;have a4:=L.a4;have z4:=L.z4;have v4:=L.v4;have z9:=L.z9;have t24:=L.t24;have a24:=L.a24;have z24:=L.z24;have v24:=L.v24
 have u0:=run_underlying L.t0;have u3:=run_underlying L.t3;have u4:=run_underlying L.t4;have u24:=run_underlying L.t24
 have IW: ¬((m:Int)=0):=by omega
 have hz2: ¬((i:Int)=(n:Int)):=by omega
 have iX:(P.info? (ρ.t 9)).map (·.size)=some s:=by rw[L.I8];simp[L.IW]
 have hov:∀ lb cb,(callFunc (ρ.f 29) #[.slice (some ⟨vb,vQ,none⟩) m vc,.slice (some ⟨b,off+(i+m)*s,none⟩) lb cb]).run P w=.ok (.value (.bool false)) w:=fun lb cb=>by
  obtain⟨fn,o1,o2,o3,o4,o5⟩:=L.FO
  rw[run_callFunc_extern o1 o2 o3 o4 o5,
   Lib.run_overlaps_apart w (ρ.t 24) (ρ.t 4) (ρ.t 9) L.t24 s L.z9 ⟨vb,vQ,none⟩ ⟨b,off+(i+m)*s,none⟩ m vc lb cb hvb tA tB kA kB hsa hsb hkB hfa hfe]
  rfl
 have QM:i*s≤n*s:=Nat.mul_le_mul_right s (by omega)
 have arX:(i+m)*s+(n - i)*s=(n+m)*s:=by rw[←Nat.add_mul];congr 1;omega
 have awh:i*s+(n - i)*s=n*s:=by rw[←Nat.add_mul];congr 1;omega
 have aee:i*s+m*s≤(n+m)*s:=by rw[←Nat.add_mul];exact Nat.mul_le_mul_right s (by omega)
 have G':(cs.drop (i*s)).length=(n - i)*s:=by rw[List.length_drop,iY,Nat.sub_mul]
 have mixed:=L.mixed
 have hw1:IntKind.i64.wrap ((i:Int)+(m:Int))=(i:Int)+(m:Int):=by rw[IntKind.wrap_i64];omega
 have hb1:(0:Int)≤(i:Int)+(m:Int):=by omega
 have fh:i≤n:=by omega
 have htn:((i:Int)+(m:Int)).toNat=i+m:=by omega
 have hb2: ¬(c=i+m):=by omega
 have hb3:(i:Int)≤(n:Int)+(m:Int):=by omega
 have hb4: ¬(c=i):=by omega
 have SO:Nat.min (n+m - i) (n+m - (i+m))=n - i:=by show min (n+m - i) (n+m - (i+m))=n - i;omega
 have SP:Nat.min m (n+m - i)=m:=by show min m (n+m - i)=m;omega
 have awi:∀ ty dc sc,(Builtin.copy_ #[(ρ.t 24),(ρ.t 24)] ty #[.slice (some ⟨b,off+(i+m)*s,none⟩) (n+m - (i+m)) dc,.slice (some ⟨b,off+i*s,none⟩) (n+m - i) sc]).run P w.drew=.ok (goInt ((n - i:Nat):Int)) (w.drew.setCells b (off+(i+m)*s) (cs.drop (i*s))):=fun ty dc sc=>by
  have:=kK (P:=P) w.drew (ρ.t 24) (ρ.t 24) ty (ρ.t 9) b (off+(i+m)*s) (n+m - (i+m)) dc ⟨b,off+i*s,none⟩ (n+m - i) sc (cs.drop (i*s)) s L.t24 iX (by rw[G',SO])
   (fun j v hj=>by rw[Addr.add_lit,Nat.add_assoc];exact gP (i*s+j) v (by rwa [List.getElem?_drop] at hj))
   (fun j hj=>by rw[Nat.add_assoc];exact hsp _ (by rw[G'] at hj;omega)) (fun j hj=>by rw[Nat.add_assoc];exact hfz _ (by rw[G'] at hj;omega)) (fun v hv=>h1c v (List.mem_of_mem_drop hv))
  rwa [SO] at this
 obtain⟨W1,QQ⟩:∃ W1,W1=w.drew.setCells b (off+(i+m)*s) (cs.drop (i*s)):=⟨_,rfl⟩
 have mW:∀ (vs:List Value) (o:Nat) (w:World) (h:∀ j,j<vs.length→(w.cell? ⟨b,o+j,none⟩).isSome=true) (k:Nat) (hk:(w.cell? ⟨b,k,none⟩).isSome=true),((w.setCells b o vs).cell? ⟨b,k,none⟩).isSome=true:=fun vs o w h k hk=>by
  by_cases fh:o≤k∧k<o+vs.length
  ·have:=World.cell?_setCells_in b vs o w h (k - o) (by omega)
   rw[show o+(k - o)=k by omega] at this
   rw[this];rfl
  ·rw[World.cell?_setCells_out b vs o w ⟨b,k,none⟩ (fun _ _=>by show k<o∨o+vs.length≤k;omega)]
   exact hk
 have awj:∀ k,k<(n+m)*s→(W1.cell? ⟨b,off+k,none⟩).isSome=true:=fun k hk=>by
  rw[QQ]
  exact mW _ _ _ (fun j hj=>by rw[Nat.add_assoc];exact hsp _ (by rw[G'] at hj;omega)) _ (hsp k hk)
 have aw9:∀ (W:World),(∀ x,W.cell? x=W1.cell? x)→(∀ x,W.frozen? x=W1.frozen? x)→∀ ty dc,(Builtin.copy_ #[(ρ.t 24),(ρ.t 24)] ty #[.slice (some ⟨b,off+i*s,none⟩) (n+m - i) dc,.slice (some ⟨vb,vQ,none⟩) m vc]).run P W=.ok (goInt m) (W.setCells b (off+i*s) vs):=fun W hWc hWf ty dc=>by
  have:=kK (P:=P) W (ρ.t 24) (ρ.t 24) ty (ρ.t 9) b (off+i*s) (n+m - i) dc ⟨vb,vQ,none⟩ m vc vs s L.t24 iX (by rw[Iu,SP])
   (fun j v hj=>by
    rw[Addr.add_lit,hWc,QQ,World.cell?_setCells_out b _ _ _ _ (fun h _=>absurd h hvb)]
    exact hvs j v hj)
   (fun j hj=>by rw[hWc,Nat.add_assoc];exact awj _ (by rw[Iu] at hj;omega)) (fun j hj=>by rw[hWf,QQ,World.frozen?_setCells,Nat.add_assoc];exact hfz _ (by rw[Iu] at hj;omega)) h1v
  rwa [SP] at this
 rw[←QQ] at awi
 obtain⟨_,_,FG⟩:=L.FB
 clear mW awj arX awh aee QM G' SO SP
 go_enter FG,Body2.n22_ntmps ρ
 go_wp2_with (simp only[hov])
 go_region_law_o (refine uL rfl _ _ (ρ.t 24) (ρ.t 24) rfl _ _ (by simp[Act.eval,Act.put]) (by simp[Act.eval,Act.put]) (awi _ _ _) ?_)
 go_wp2_with (at_builtin;refine lx _ rfl _ _ (ρ.t 24) (ρ.t 24) rfl _ _ rfl rfl (aw9 _ (fun _=>rfl) (fun _=>rfl) _ _) ?_)
 go_ret
 first |exact⟨rfl,rfl⟩ |exact⟨rfl,by rw[QQ]⟩
set_option maxHeartbeats 4000000 in
set_option maxRecDepth 100000 in
theorem SQ (L:It P ρ s zs i0) (X:Option Addr) (n c vb vQ m vc:Nat) (w w':World) (v':Value) (hm:0<m) (hnc:n≤c) (J1:c≤9223372036854775807) (hX:X=none→c=0)
  (b7:∀ ty,(Builtin.append_ #[(ρ.t 24),(ρ.t 24)] ty #[.slice X n c,.slice (some ⟨vb,vQ,none⟩) m vc]).run P w=.ok v' w'):
  Calls P (ρ.f 22) #[.slice X n c,.int .i64 n,.slice (some ⟨vb,vQ,none⟩) m vc] w fun e w2=>e=.returned v'∧w2=w':=by
 have t0:=L.t0;have a0:=L.a0;have z0:=L.z0;have v0:=L.v0;have t3:=L.t3;have a3:=L.a3;have z3:=L.z3;have v3:=L.v3;have t4:=L.t4;have a4:=L.a4;have z4:=L.z4;have v4:=L.v4;have z9:=L.z9;have t24:=L.t24;have a24:=L.a24;have z24:=L.z24;have v24:=L.v24
 have u0:=run_underlying L.t0;have u3:=run_underlying L.t3;have u4:=run_underlying L.t4;have u24:=run_underlying L.t24
 have mixed:=L.mixed
 have IW: ¬((m:Int)=0):=by omega
 obtain⟨_,_,FG⟩:=L.FB
 cases X with
 |none=>
  obtain rfl:=hX rfl
  obtain rfl:n=0:=by omega
  go_enter FG,Body2.n22_ntmps ρ
  go_wp2_with (at_builtin;refine Lib.wpList_append_run _ rfl _ _ _ _ rfl _ _ rfl rfl _ _ (b7 _) ?_)
  all_goals (go_ret;exact⟨rfl,rfl⟩)
 |some A=>
  go_enter FG,Body2.n22_ntmps ρ
  go_wp2_with (at_builtin;refine Lib.wpList_append_run _ rfl _ _ _ _ rfl _ _ rfl rfl _ _ (b7 _) ?_)
  all_goals (go_ret;exact⟨rfl,rfl⟩)
set_option maxHeartbeats 4000000 in
set_option maxRecDepth 100000 in
theorem OJ (L:It P ρ s zs i0) (b off n c i vb vQ m vc:Nat) (cs vs:List Value) (w:World) (hi:i<n) (hm:0<m) (hnc:n≤c) (rZ:c<n+m) (J1:c≤9223372036854775807) (Z8:(n+m)*i0.bytes≤140737488355328) (hbl:n+m≤4398046511104)
  (iY:cs.length=n*s) (Iu:vs.length=m*s) (hbw:b<w.heap.size) (hvw:vb<w.heap.size)
  (gP:∀ j v,cs[j]?=some v→w.cell? ⟨b,off+j,none⟩=some v)
  (hvs:∀ j v,vs[j]?=some v→w.cell? ⟨vb,vQ+j,none⟩=some v) (h1c:∀ v∈cs,v.oneCell'=true) (h1v:∀ v∈vs,v.oneCell'=true):
  Calls P (ρ.f 22) #[.slice (some ⟨b,off,none⟩) n c,.int .i64 i,.slice (some ⟨vb,vQ,none⟩) m vc] w fun e w'=>
   e=.returned (.slice (some ⟨w.heap.size,0,none⟩) (n+m) (grownCap w (n+m) c (ρ.t 9)))∧
   w'=(((w.alloc (.cells ((cs.take (i*s)).toArray++Builtin.zeroCells zs (n+m - i)++Builtin.zeroCells zs (grownCap w (n+m) c (ρ.t 9) - (n+m))) (ρ.t 9))).drew.setCells w.heap.size (i*s) vs).drew).setCells w.heap.size ((i+m)*s) (cs.drop (i*s)):=by
 have t0:=L.t0;have a0:=L.a0;have z0:=L.z0;have v0:=L.v0;have t3:=L.t3;have a3:=L.a3;have z3:=L.z3;have v3:=L.v3;have t4:=L.t4;have a4:=L.a4;have z4:=L.z4;have v4:=L.v4;have z9:=L.z9;have t24:=L.t24;have a24:=L.a24;have z24:=L.z24;have v24:=L.v24
 have u0:=run_underlying L.t0;have u3:=run_underlying L.t3;have u4:=run_underlying L.t4;have u24:=run_underlying L.t24
 have mixed:=L.mixed
 have I8:=L.I8;have hz0:=L.hz0;have hzs:=L.IW
 have IW: ¬((m:Int)=0):=by omega
 have hz2: ¬((i:Int)=(n:Int)):=by omega
 have hz3:(c:Int)<(n:Int)+(m:Int):=by omega
 have iX:(P.info? (ρ.t 9)).map (·.size)=some s:=by rw[I8];simp[hzs]
 have QM:i*s≤n*s:=Nat.mul_le_mul_right s (by omega)
 have arX:(i+m)*s+(n - i)*s=(n+m)*s:=by rw[←Nat.add_mul];congr 1;omega
 have aee:i*s+m*s≤(n+m)*s:=by rw[←Nat.add_mul];exact Nat.mul_le_mul_right s (by omega)
 have hkk:(n:Int)+(m:Int) - (i:Int)=((n+m - i:Nat):Int):=by omega
 have hik:i+(n+m - i)=n+m:=by omega
 have hold:(Builtin.firstCells i0.size i (.slice (some ⟨b,off,none⟩) i c)).run P w.drew=.ok (cs.take (i*s)).toArray w.drew:=by
  rw[hzs]
  exact run_firstCells_some w.drew s i ⟨b,off,none⟩ i c (cs.take (i*s)) (by rw[List.length_take];omega) (fun j v hj=>by
   rw[Addr.add_lit]
   rw[List.getElem?_take] at hj
   split at hj
   ·exact gP j v hj
   ·cases hj)
 have hrz:∀ ty,(Builtin.append_ #[(ρ.t 24),(ρ.t 3)] ty #[.slice (some ⟨b,off,none⟩) i c,.int .i64 ((n:Int)+(m:Int) - (i:Int))]).run P w=
   .ok (.slice (some ⟨w.heap.size,0,none⟩) (n+m) (grownCap w (n+m) c (ρ.t 9))) (w.drew.alloc (.cells ((cs.take (i*s)).toArray++Builtin.zeroCells zs (n+m - i)++Builtin.zeroCells zs (grownCap w (n+m) c (ρ.t 9) - (n+m))) (ρ.t 9))):=fun ty=>by
  have hkb:(n+m - i)*i0.bytes≤(n+m)*i0.bytes:=Nat.mul_le_mul_right _ (by omega)
  have h:=Lib.run_append_grow_zeros w (ρ.t 24) (ρ.t 3) ty (ρ.t 9) i0 _ .i64 .i64 L.t24 L.t3 I8 hz0 (some ⟨b,off,none⟩) i c (cs.take (i*s)) hold (n+m - i) (by omega) (by rw[hzs];exact L.Dd) (by omega) (by omega) (by omega) (by rw[hik];exact growslice_fits rZ Z8)
  rw[hik] at h
  rw[hkk]
  exact h
 obtain⟨G,hG⟩:∃ G,G=grownCap w (n+m) c (ρ.t 9):=⟨_,rfl⟩
 obtain⟨uj,SR⟩:∃ uj:Array Value,uj=(cs.take (i*s)).toArray++Builtin.zeroCells zs (n+m - i)++Builtin.zeroCells zs (G - (n+m)):=⟨_,rfl⟩
 rw[←hG] at hrz ⊢
 rw[←SR] at hrz ⊢
 have hRl:(n+m)*s≤uj.size:=by
  have e1:(n+m)*s=i*s+(n+m - i)*s:=by rw[←Nat.add_mul,hik]
  rw[SR]
  simp only[Array.size_append,List.size_toArray,List.length_take,iY,Builtin.zeroCells,Array.size_map,Array.size_range,L.hz]
  omega
 obtain⟨W1,QQ⟩:∃ W1,W1=w.drew.alloc (.cells uj (ρ.t 9)):=⟨_,rfl⟩
 rw[←QQ] at hrz
 have hN:∀ j,j<(n+m)*s→(W1.cell? ⟨w.heap.size,j,none⟩).isSome=true:=fun j hj=>by
  rw[QQ,World.cell?_alloc_at (w:=w.drew) uj _ w.heap.size j rfl,Array.getElem?_eq_getElem (by omega)];rfl
 have hNf:∀ j,W1.frozen? ⟨w.heap.size,j,none⟩=false:=fun j=>by rw[QQ];exact World.frozen?_alloc_at (w:=w.drew) uj _ w.heap.size j rfl
 have hOb:∀ j v,w.cell? ⟨b,j,none⟩=some v→W1.cell? ⟨b,j,none⟩=some v:=fun j v h=>by rw[QQ,World.cell?_alloc_past (w:=w.drew) _ b j hbw];exact h
 have hOv:∀ j v,w.cell? ⟨vb,j,none⟩=some v→W1.cell? ⟨vb,j,none⟩=some v:=fun j v h=>by rw[QQ,World.cell?_alloc_past (w:=w.drew) _ vb j hvw];exact h
 have SO:Nat.min m (n+m - i)=m:=by show min m (n+m - i)=m;omega
 have SP:Nat.min (n - i) (n+m - (i+m))=n - i:=by show min (n - i) (n+m - (i+m))=n - i;omega
 have aw':∀ (W:World),(∀ x,W.cell? x=W1.cell? x)→(∀ x,W.frozen? x=W1.frozen? x)→∀ ty dc,(Builtin.copy_ #[(ρ.t 24),(ρ.t 24)] ty #[.slice (some ⟨w.heap.size,i*s,none⟩) (n+m - i) dc,.slice (some ⟨vb,vQ,none⟩) m vc]).run P W=.ok (goInt m) (W.setCells w.heap.size (i*s) vs):=fun W hWc hWf ty dc=>by
  have:=kK (P:=P) W (ρ.t 24) (ρ.t 24) ty (ρ.t 9) w.heap.size (i*s) (n+m - i) dc ⟨vb,vQ,none⟩ m vc vs s L.t24 iX (by rw[Iu,SO])
   (fun j v hj=>by rw[Addr.add_lit,hWc];exact hOv _ v (hvs j v hj))
   (fun j hj=>by rw[hWc];exact hN _ (by rw[Iu] at hj;omega)) (fun j hj=>by rw[hWf];exact hNf _) h1v
  rwa [SO] at this
 have hGn:n+m≤G:=by rw[hG];exact grownCap_ge w _ _ _
 have axu:G≤9223372036854775807:=by
  have:=grownCap_le_maxLen w (n+m) c (ρ.t 9) (by unfold Go.maxLen;omega)
  rw[←hG] at this
  unfold Go.maxLen at this
  omega
 have hGi: ¬(G=i):=by omega
 have axv: ¬(G=i+m):=by omega
 have hci: ¬(c=i):=by omega
 have hbN:b≠w.heap.size:=by omega
 have G':(cs.drop (i*s)).length=(n - i)*s:=by rw[List.length_drop,iY,Nat.sub_mul]
 have mW:∀ (g:Nat) (vs:List Value) (o:Nat) (w:World) (h:∀ j,j<vs.length→(w.cell? ⟨g,o+j,none⟩).isSome=true) (k:Nat) (hk:(w.cell? ⟨g,k,none⟩).isSome=true),((w.setCells g o vs).cell? ⟨g,k,none⟩).isSome=true:=fun g vs o w h k hk=>by
  by_cases fh:o≤k∧k<o+vs.length
  ·have:=World.cell?_setCells_in g vs o w h (k - o) (by omega)
   rw[show o+(k - o)=k by omega] at this
   rw[this];rfl
  ·rw[World.cell?_setCells_out g vs o w ⟨g,k,none⟩ (fun _ _=>by show k<o∨o+vs.length≤k;omega)]
   exact hk
 have awk:∀ (W:World),(∀ x,W.cell? x=(W1.setCells w.heap.size (i*s) vs).cell? x)→(∀ x,W.frozen? x=(W1.setCells w.heap.size (i*s) vs).frozen? x)→∀ ty dc sc,(Builtin.copy_ #[(ρ.t 24),(ρ.t 24)] ty #[.slice (some ⟨w.heap.size,(i+m)*s,none⟩) (n+m - (i+m)) dc,.slice (some ⟨b,off+i*s,none⟩) (n - i) sc]).run P W=.ok (goInt ((n - i:Nat):Int)) (W.setCells w.heap.size ((i+m)*s) (cs.drop (i*s))):=fun W hWc hWf ty dc sc=>by
  have:=kK (P:=P) W (ρ.t 24) (ρ.t 24) ty (ρ.t 9) w.heap.size ((i+m)*s) (n+m - (i+m)) dc ⟨b,off+i*s,none⟩ (n - i) sc (cs.drop (i*s)) s L.t24 iX (by rw[G',SP])
   (fun j v hj=>by
    rw[Addr.add_lit,hWc,World.cell?_setCells_out _ _ _ _ _ (fun h _=>absurd h hbN),Nat.add_assoc]
    exact hOb _ v (gP (i*s+j) v (by rwa [List.getElem?_drop] at hj)))
   (fun j hj=>by rw[hWc];exact mW _ _ _ _ (fun t ht=>hN _ (by rw[Iu] at ht;omega)) _ (hN _ (by rw[G'] at hj;omega)))
   (fun j hj=>by rw[hWf,World.frozen?_setCells];exact hNf _) (fun v hv=>h1c v (List.mem_of_mem_drop hv))
  rwa [SP] at this
 subst QQ
 have hE1:∀ x,((w.alloc (.cells uj (ρ.t 9))).drew).cell? x=(w.drew.alloc (.cells uj (ρ.t 9))).cell? x:=fun x=>rfl
 have hE2:∀ x,((w.alloc (.cells uj (ρ.t 9))).drew).frozen? x=(w.drew.alloc (.cells uj (ρ.t 9))).frozen? x:=fun x=>rfl
 have hF1:∀ x,(((w.alloc (.cells uj (ρ.t 9))).drew.setCells w.heap.size (i*s) vs).drew).cell? x=((w.drew.alloc (.cells uj (ρ.t 9))).setCells w.heap.size (i*s) vs).cell? x:=fun x=>rfl
 have hF2:∀ x,(((w.alloc (.cells uj (ρ.t 9))).drew.setCells w.heap.size (i*s) vs).drew).frozen? x=((w.drew.alloc (.cells uj (ρ.t 9))).setCells w.heap.size (i*s) vs).frozen? x:=fun x=>rfl
 have hw1:IntKind.i64.wrap ((i:Int)+(m:Int))=(i:Int)+(m:Int):=by rw[IntKind.wrap_i64];omega
 have hb1:(0:Int)≤(i:Int)+(m:Int):=by omega
 have fh:i≤n:=by omega
 have htn:((i:Int)+(m:Int)).toNat=i+m:=by omega
 have hb3:(i:Int)≤(n:Int):=by omega
 obtain⟨_,_,FG⟩:=L.FB
 clear hkk hik hold SR hG hRl QM arX aee SO SP mW G'
 go_enter FG,Body2.n22_ntmps ρ
 go_wp2_with (first
  |(at_builtin;refine Lib.wpList_append_run _ rfl _ _ _ _ rfl _ _ rfl rfl _ _ (hrz _) ?_)
  |(at_builtin;refine lx _ rfl _ _ (ρ.t 24) (ρ.t 24) rfl _ _ rfl rfl (aw' _ hE1 hE2 _ _) ?_)
  |(at_builtin;refine lx _ rfl _ _ (ρ.t 24) (ρ.t 24) rfl _ _ rfl rfl (awk _ (fun _=>rfl) (fun _=>rfl) _ _ _) ?_))
 go_region_law_o (refine uL rfl _ _ (ρ.t 24) (ρ.t 24) rfl (.slice (some ⟨w.heap.size,(i+m)*s,none⟩) (n+m - (i+m)) (G - (i+m))) (.slice (some ⟨b,off+i*s,none⟩) (n - i) (c - i)) (by simp[Act.eval,Act.put]) (by simp[Act.eval,Act.put]) (awk _ hF1 hF2 (ρ.t 3) (G - (i+m)) (c - i)) ?_)
 go_wp2
 go_ret
 exact⟨rfl,rfl⟩
end
section
variable {P:Program} {ρ:Ren}
theorem Iv {s i m n:Nat} {base rows cT:List Value} (hbl:(n+m)*s≤base.length) (hrl:rows.length=n*s) (Iu:cT.length=m*s) (hi:i≤n) (I0:∀ q,q<i*s→base[q]?=rows[q]?) (axj:True):
  ((Go.Pv.putCells (Go.Pv.putCells base ((i+m)*s) (rows.drop (i*s))) (i*s) cT).length=base.length∧
   ∀ q,q<(n+m)*s→(Go.Pv.putCells (Go.Pv.putCells base ((i+m)*s) (rows.drop (i*s))) (i*s) cT)[q]?=if q<i*s then rows[q]? else if q<(i+m)*s then cT[q - i*s]? else rows[q - m*s]?)∧
  ((Go.Pv.putCells (Go.Pv.putCells base (i*s) cT) ((i+m)*s) (rows.drop (i*s))).length=base.length∧
   ∀ q,q<(n+m)*s→(Go.Pv.putCells (Go.Pv.putCells base (i*s) cT) ((i+m)*s) (rows.drop (i*s)))[q]?=if q<i*s then rows[q]? else if q<(i+m)*s then cT[q - i*s]? else rows[q - m*s]?):=by
 have e1:(i+m)*s=i*s+m*s:=Nat.add_mul _ _ _
 have e2:(n+m)*s=n*s+m*s:=Nat.add_mul _ _ _
 have e3:i*s≤n*s:=Nat.mul_le_mul_right s hi
 have G':(rows.drop (i*s)).length=n*s - i*s:=by rw[List.length_drop,hrl]
 refine⟨?_,?_⟩
 ·have p1:(i+m)*s+(rows.drop (i*s)).length≤base.length:=by rw[G'];omega
  have l1:=iv base (rows.drop (i*s)) ((i+m)*s) p1
  have p2:i*s+cT.length≤(Go.Pv.putCells base ((i+m)*s) (rows.drop (i*s))).length:=by rw[l1,Iu];omega
  refine⟨by rw[iv _ _ _ p2,l1],fun q hq=>?_⟩
  rw[iu _ _ _ _ p2,iu _ _ _ _ p1,Iu,G']
  by_cases h1:q<i*s
  ·rw[if_pos h1,if_pos (by omega),if_pos h1,I0 q h1]
  ·rw[if_neg h1,if_neg h1]
   by_cases h2:q<(i+m)*s
   ·rw[if_pos (by omega),if_pos h2]
   ·rw[if_neg (by omega),if_neg h2,if_neg h2,if_pos (by omega),List.getElem?_drop]
    congr 1
    omega
 ·have p1:i*s+cT.length≤base.length:=by rw[Iu];omega
  have l1:=iv base cT (i*s) p1
  have p2:(i+m)*s+(rows.drop (i*s)).length≤(Go.Pv.putCells base (i*s) cT).length:=by rw[l1,G'];omega
  refine⟨by rw[iv _ _ _ p2,l1],fun q hq=>?_⟩
  rw[iu _ _ _ _ p2,iu _ _ _ _ p1,Iu,G']
  by_cases h1:q<i*s
  ·rw[if_pos (by omega),if_pos h1,if_pos h1,I0 q h1]
  ·rw[if_neg h1]
   by_cases h2:q<(i+m)*s
   ·rw[if_pos h2,if_neg h1,if_pos (by omega),if_pos h2]
   ·rw[if_neg h2,if_pos (by omega),if_neg h1,if_neg h2,List.getElem?_drop]
    congr 1
    omega
theorem aef {s i m n:Nat} {L rows cT:List Value} (hi:i≤n) (hL:∀ q,q<(n+m)*s→L[q]?=if q<i*s then rows[q]? else if q<(i+m)*s then cT[q - i*s]? else rows[q - m*s]?) (k:Nat) (hk:k<n+m):
  (L.drop (k*s)).take s=if k<i then(rows.drop (k*s)).take s else if k<i+m then(cT.drop ((k - i)*s)).take s else(rows.drop ((k - m)*s)).take s:=by
 have h0:(k+1)*s≤(n+m)*s:=Nat.mul_le_mul_right s hk
 rw[Nat.add_mul,Nat.one_mul] at h0
 apply List.ext_getElem?
 intro q
 rw[lY]
 by_cases hq:q<s
 rotate_left
 ·rw[if_neg hq]
  split
  ·rw[lY,if_neg hq]
  ·split
   ·rw[lY,if_neg hq]
   ·rw[lY,if_neg hq]
 rw[if_pos hq,hL _ (by omega)]
 by_cases h1:k<i
 ·have h2:(k+1)*s≤i*s:=Nat.mul_le_mul_right s h1
  rw[Nat.add_mul,Nat.one_mul] at h2
  rw[if_pos (by omega),if_pos h1,lY,if_pos hq]
 ·have h2:i*s≤k*s:=Nat.mul_le_mul_right s (by omega)
  rw[if_neg (by omega),if_neg h1]
  by_cases h3:k<i+m
  ·have h4:(k+1)*s≤(i+m)*s:=Nat.mul_le_mul_right s h3
   rw[Nat.add_mul,Nat.one_mul] at h4
   rw[if_pos (by omega),if_pos h3,lY,if_pos hq,Nat.sub_mul]
   congr 1
   omega
  ·have h4:(i+m)*s≤k*s:=Nat.mul_le_mul_right s (by omega)
   have h5:m*s≤k*s:=Nat.mul_le_mul_right s (by omega)
   rw[if_neg (by omega),if_neg h3,lY,if_pos hq,Nat.sub_mul]
   congr 1
   omega
variable {w w':World} {H:Nat→Value} {A:Nat→Prop}
theorem OK {B:Nat→Prop} {t:Ty} {e:TypeId} {me:Md} {xs vs:List t.I} {i G C:Nat} {σ dq:Nat→Option Nat} {gk:Array Value} {rows cT:List Value} {τ τv:Nat→Nat} {P0 P2:Nat→Prop} (hi:i≤xs.length)
  (bO:aO w w' (Av σ B) (Av dq B)) (h0:∀ g',P0 g'→dq g'=some 0∧g'≠G∧ ¬P2 g') (h2:∀ g',P2 g'→dq g'=some 0∧g'≠G) (kR:∀ g',P0 g'∨P2 g'→w'.heap[g']?=w.heap[g']?)
  (hG:dq G=some 0) (gd:w'.heap[G]?=some (.cells gk e (0,0))) (iX:gk.size=C*t.size) (hC:C≤maxLen) (hnC:xs.length+vs.length≤C)
  (hx:∀ k (hk:k<xs.length),M w (Av σ B) H t me xs[k] ((rows.drop (k*t.size)).take t.size) (fun g'=>P0 g'∧τ g'=k) [])
  (hv:∀ k (hk:k<vs.length),M w (Av σ B) H t me vs[k] ((cT.drop (k*t.size)).take t.size) (fun g'=>P2 g'∧τv g'=k) [])
  (hL:∀ q,q<(xs.length+vs.length)*t.size→gk.toList[q]?=if q<i*t.size then rows[q]? else if q<(i+vs.length)*t.size then cT[q - i*t.size]? else rows[q - vs.length*t.size]?):
  M w' (Av dq B) H (.sl t) (.o e none me) (List.take i xs++vs++List.drop i xs) [.slice (some ⟨G,0,none⟩) (xs.length+vs.length) C] (fun g'=>dq g'=some 0) []:=by
 have hyl:(List.take i xs++vs++List.drop i xs).length=xs.length+vs.length:=by rw[List.length_append,List.length_append,List.length_take,List.length_drop];omega
 have hmi:min i xs.length=i:=by omega
 simp only[M]
 refine .inr (.inr ⟨e,none,me,some ⟨G,0,none⟩,C,rfl,by rw[hyl],by rw[hyl];exact hnC,fun h hh=>(by cases hh),.inr ⟨G,gk,fun g'=>open Classical in if P2 g' then i+τv g' else if τ g'<i then τ g' else τ g'+vs.length,rfl,hG,gd,iX,hC,fun k hk=>?_⟩⟩)
 have fo:k<xs.length+vs.length:=by rw[←hyl];exact hk
 rw[aef hi hL k fo]
 by_cases h1:k<i
 ·rw[if_pos h1]
  have hxk:(List.take i xs++vs++List.drop i xs)[k]'hk=xs[k]'(by omega):=by
   rw[List.getElem_append_left (by rw[List.length_append,List.length_take];omega),List.getElem_append_left (by rw[List.length_take];omega),List.getElem_take]
  rw[hxk]
  refine aH bO t (fun g' bd _=>kR g' (.inl bd.1)) (fun g' bd _=>⟨(h0 g' bd.1).1,(h0 g' bd.1).2.1,?_⟩) (fun p hp=>by simp at hp) (hx k (by omega))
  simp only[(h0 g' bd.1).2.2,if_false,bd.2,h1,if_true]
 ·rw[if_neg h1]
  by_cases h3:k<i+vs.length
  ·rw[if_pos h3]
   have hxk:(List.take i xs++vs++List.drop i xs)[k]'hk=vs[k - i]'(by omega):=by
    rw[List.getElem_append_left (by rw[List.length_append,List.length_take];omega),List.getElem_append_right (by rw[List.length_take];omega)]
    congr 1
    rw[List.length_take]
    omega
   rw[hxk]
   refine aH bO t (fun g' bd _=>kR g' (.inr bd.1)) (fun g' bd _=>⟨(h2 g' bd.1).1,(h2 g' bd.1).2,?_⟩) (fun p hp=>by simp at hp) (hv (k - i) (by omega))
   simp only[bd.1,if_true,bd.2]
   omega
  ·rw[if_neg h3]
   have hxk:(List.take i xs++vs++List.drop i xs)[k]'hk=xs[k - vs.length]'(by omega):=by
    rw[List.getElem_append_right (by rw[List.length_append,List.length_take];omega),List.getElem_drop]
    congr 1
    rw[List.length_append,List.length_take]
    omega
   rw[hxk]
   refine aH bO t (fun g' bd _=>kR g' (.inl bd.1)) (fun g' bd _=>⟨(h0 g' bd.1).1,(h0 g' bd.1).2.1,?_⟩) (fun p hp=>by simp at hp) (hx (k - vs.length) (by omega))
   have h9: ¬k - vs.length<i:=by omega
   simp only[(h0 g' bd.1).2.2,if_false,bd.2,h9]
   omega
end
section
variable {P:Program} {ρ:Ren} {w w':World} {H:Nat→Value} {A:Nat→Prop}
theorem aeg {Γ:Gl} {B:Nat→Prop} {t:Ty} {m m2:Md} {xs vs:List t.I} {i:Int} {σ:Nat→Option Nat} {cd:List Value} (fh:In Γ B H w σ [.tv ⟨.sl t,m,xs⟩,.tv ⟨.int .i64,.k,i⟩,.tv ⟨.sl t,m2,vs⟩] cd):
  ∃ v v2,cd=[v,.int .i64 i,v2]∧M w (Av σ B) H (.sl t) m xs [v] (fun g=>σ g=some 0) []∧M w (Av σ B) H (.sl t) m2 vs [v2] (fun g=>σ g=some 2) []:=by
 obtain⟨v,hv,cs,h1,h2⟩:=fh.ok 0 _ rfl
 obtain⟨v1,hv1,cs1,h3,h4⟩:=fh.ok 1 _ rfl
 obtain⟨v2,MI,cs2,h5,h6⟩:=fh.ok 2 _ rfl
 have gP:cs=[v]:=by simpa[an,isAgg] using h1
 subst gP
 have gP:cs2=[v2]:=by simpa[an,isAgg] using h5
 subst gP
 refine⟨v,v2,?_,h2,h6⟩
 simp only[M] at h4
 have e1:=c7 h3 h4.2
 subst e1
 have hl:=fh.len
 match cd,hl,hv,hv1,MI with
 |[a,b,c],_,hv,hv1,MI=>simp at hv hv1 MI;rw[hv,hv1,MI]
theorem Iw {t:Ty} {e:TypeId} {me:Md} {xs:List t.I} {v:Value} {ow:Nat→Prop} (h:M w A H (.sl t) (.o e none me) xs [v] ow []):
  ∃ X c,v=.slice X xs.length c∧xs.length≤c∧((xs=[]∧c=0)∨∃ (g:Nat) (cur:Array Value) (τ:Nat→Nat),X=some ⟨g,0,none⟩∧ow g∧w.heap[g]?=some (.cells cur e (0,0))∧cur.size=c*t.size∧c≤maxLen∧
   ∀ k (hk:k<xs.length),M w A H t me xs[k] ((cur.toList.drop (k*t.size)).take t.size) (fun g'=>(ow g'∧g'≠g)∧τ g'=k) []):=by
 simp only[M] at h
 rcases h with⟨hn,_⟩ |⟨hk,_⟩ |⟨T,abt,me',X,c,e1,e2,hc,ht,h⟩
 ·simp at hn
 ·simp[Md.bH] at hk
 injection e1 with e1 Ae pL
 subst e1 Ae pL
 injection e2 with e2 _
 subst e2
 refine⟨X,c,rfl,hc,?_⟩
 rcases h with h |⟨g,cur,τ,rfl,hg,hw,hs,hm,u6⟩
 ·exact .inl h
 ·refine .inr ⟨g,cur,τ,rfl,hg,hw,hs,hm,fun k hk=>?_⟩
  have:=u6 k hk
  refine aH (w:=w) ⟨fun _ _ _=>rfl,fun _ _ h=>h⟩ t (fun _ _ _=>rfl) (fun g' bd _=>⟨⟨bd.1,bd.2.1⟩,bd.2.2⟩) (fun p hp=>by simp[sub] at hp) this
theorem J2 {g o:Nat} {cur:Array Value} {e:TypeId} (hw:w.heap[g]?=some (.cells cur e (0,0))):w.frozen? ⟨g,o,none⟩=false:=by simp[World.frozen?,hw]
theorem aeh {g o:Nat} {cur:Array Value} {e:TypeId} {v:Value} (hw:w.heap[g]?=some (.cells cur e (0,0))) (h:cur.toList[o]?=some v):w.cell? ⟨g,o,none⟩=some v:=by
 rw[Array.getElem?_toList] at h
 simp[World.cell?,hw,h]
theorem x6 {Γ:Gl} {t:Ty} {zs:Array Value} {i0:TypeInfo} (L:It P ρ t.size zs i0) (me:Md) (aw6:fK t me=true):Sound Γ P (ρ.f 22) (ao [.v (.sl t) (.o (ρ.t 9) none me),.v (.int .i64) .k,.v (.sl t) (.o (ρ.t 9) none me)]
  fun x kf=>bif decide (0≤x.2.1)&&(decide (x.2.1≤(List.length x.1:Int))&&(Nat.blt 0 (List.length x.2.2.1)&&Nat.ble ((List.length x.1+List.length x.2.2.1)*t.size) 4398046511104)) then kf ⟨[⟨.sl t,.o (ρ.t 9) none me,List.take (Int.toNat x.2.1) x.1++x.2.2.1++List.drop (Int.toNat x.2.1) x.1⟩],[]⟩ else none):=by
 refine⟨?_,fun al=>?_⟩
 rotate_left
 ·unfold ao
  split
  ·exact cJ.bif _ (cJ.pure _) cJ.none
  ·exact cJ.none
 intro args kf ret w σ cd H B hr fh
 unfold ao at hr
 split at hr
 case h_2=>cases hr
 rename_i x hx
 have:=jy _ args hx
 subst this
 rcases x with⟨xs,(ii:Int),vs,u⟩
 simp only[dz] at fh hr
 cases G0:(decide (0≤ii)&&(decide (ii≤(List.length xs:Int))&&(Nat.blt 0 (List.length vs)&&Nat.ble ((List.length xs+List.length vs)*t.size) 4398046511104))) with
 |false=>rw[G0] at hr;cases hr
 |true=>
 rw[G0] at hr
 simp only[cond_true] at hr
 simp only[Bool.and_eq_true,decide_eq_true_eq] at G0
 obtain⟨I8,hi1,YE,Z8⟩:=G0
 have YE:0<List.length vs:=by rwa [Nat.blt_eq] at YE
 have Z8:(List.length xs+List.length vs)*t.size≤4398046511104:=by rwa [Nat.ble_eq] at Z8
 obtain⟨i,rfl⟩:∃ i:Nat,ii=(i:Int):=⟨ii.toNat,by omega⟩
 have hi:i≤List.length xs:=by omega
 simp only[Int.toNat_natCast] at hr
 obtain⟨v,v2,rfl,hx1,wY⟩:=aeg fh
 have hMx:=hx1
 obtain⟨X,c,rfl,hc,hX⟩:=Iw hx1
 obtain⟨X2,vc,rfl,hvc,hX2⟩:=Iw wY
 rcases hX2 with⟨h0,_⟩ |⟨vb,arY,τv,rfl,hvg,hvw,hvs,hvm,awl⟩
 ·rw[h0] at YE;simp at YE
 have QP:(callFunc (ρ.f 22) [Value.slice X (List.length xs) c,.int .i64 i,Value.slice (some ⟨vb,0,none⟩) (List.length vs) vc].toArray).run P w=.ok (.enter (ρ.f 22) [Value.slice X (List.length xs) c,.int .i64 i,Value.slice (some ⟨vb,0,none⟩) (List.length vs) vc].toArray) w:=L.FB.enters rfl _ w
 have hmx:maxLen=9223372036854775807:=rfl
 have Dd:0<t.size:=L.Dd
 have abK:xs.length+vs.length≤4398046511104:=Nat.le_trans (Nat.le_mul_of_pos_right _ Dd) Z8
 have J1:c≤9223372036854775807∧(X=none→c=0):=by
  rcases hX with⟨_,h⟩ |⟨g,cur,τ,rfl,hg,hw,hs,hm,u6⟩
  ·exact⟨by omega,fun _=>h⟩
  ·exact⟨by omega,fun hx=>by cases hx⟩
 have hms:vs.length*t.size≤vc*t.size:=Nat.mul_le_mul_right _ hvc
 have hvt:arY.toList.length=vc*t.size:=by simpa using hvs
 obtain⟨cT,hvr⟩:∃ cT,cT=arY.toList.take (vs.length*t.size):=⟨_,rfl⟩
 have Iu:cT.length=vs.length*t.size:=by rw[hvr,List.length_take,hvt];omega
 have aei:∀ k (hk:k<vs.length),M w (Av σ B) H t me vs[k] ((cT.drop (k*t.size)).take t.size) (fun g'=>(σ g'=some 2∧g'≠vb)∧τv g'=k) []:=fun k hk=>by
  rw[hvr,oq hk]
  exact awl k hk
 have h1v:∀ u∈cT,u.oneCell'=true:=by
  rw[hvr]
  exact ot vs.length fun k hk u hu=>(eH t (awl k hk)).2 u hu
 have aej:∀ j u,cT[j]?=some u→w.cell? ⟨vb,0+j,none⟩=some u:=fun j u hj=>by
  rw[hvr,List.getElem?_take] at hj
  split at hj
  ·rw[Nat.zero_add];exact aeh hvw hj
  ·cases hj
 have axk:Own σ vb:=⟨2,hvg⟩
 by_cases heq:i=xs.length
 ·-- at the end
  subst heq
  have rY:Src P t.size (ρ.t 24) (.slice (some ⟨vb,0,none⟩) vs.length vc) vs.length cT w:=Src.ofSlice w L.t24 ⟨vb,0,none⟩ vs.length vc cT Iu (fun j u hu=>by rw[Addr.add_lit];exact aej j u hu) h1v
  obtain⟨v',w',cA,_,hM',kR,awm,hle,hos,awn,Ha⟩:=xw (P:=P) (Θ:=[]) rfl (T:=ρ.t 24) (T':=ρ.t 24) (ty:=ρ.t 24) L.t24 L.I8 L.hz0 L.IW L.hby (by show zs.size=_;exact L.hz) Dd hMx rY aei (fun g' h1 h2=>by rw[h1] at h2;cases h2.1) (fun g' h=>.inl ⟨0,h⟩) (fun g' h=>(fh.lt g' 0 h).2) (fun g' h=>(fh.lt g' 2 h.1).2) Z8
  have b7:∀ ty,(Builtin.append_ #[(ρ.t 24),(ρ.t 24)] ty #[.slice X xs.length c,.slice (some ⟨vb,0,none⟩) vs.length vc]).run P w=.ok v' w':=fun ty=>by assumption
  refine .inl ⟨QP,(SQ L X xs.length c vb 0 vs.length vc w w' v' YE hc J1.1 J1.2 b7).mono fun en w2 he=>?_⟩
  obtain⟨rfl,rfl⟩:=he
  refine⟨_,hr,⟨hos,awn,Ha,hle,fun g' cf YM=>kR g' cf fun e=>YM ⟨0,e⟩⟩,fun g'=>open Classical in if cA g' then some 0 else none,[v'],rfl,rfl,fun g' q bd=>?_,fun q b hb=>?_,fun d hd=>(by cases hd)⟩
  ·by_cases h:cA g'
   ·obtain⟨h1,h2⟩:=awm g' h
    refine⟨?_,h1⟩
    rcases h2 with h2 |h2 |h2
    ·exact .inr ⟨0,h2⟩
    ·exact .inr ⟨2,h2.1⟩
    ·exact .inl h2
   ·simp only[h,if_false] at bd;cases bd
  ·cases q with
   |succ q=>simp at hb
   |zero=>
    simp only[List.getElem?_cons_zero,Option.some.injEq] at hb
    subst hb
    refine⟨v',[v'],rfl,by simp[an,isAgg],?_⟩
    have e3:List.take xs.length xs++vs++List.drop xs.length xs=xs++vs:=by rw[List.take_length,List.drop_length,List.append_nil]
    simp only[e3]
    refine aH (w:=w2) ⟨fun _ _ _=>rfl,fun g' bd hx=>?_⟩ (.sl t) (fun _ _ _=>rfl) (fun g' bd _=>by simp only[bd,if_true]) (fun _ h=>h) hM'
    rcases hx with⟨q,hq⟩ |hz
    rotate_left
    ·exact .inl (.inr hz)
    by_cases h:cA g'
    ·obtain⟨h1,h2⟩:=awm g' h
     rcases h2 with h2 |h2 |h2
     ·exact .inl (.inl ⟨0,h2⟩)
     ·exact .inl (.inl ⟨2,h2.1⟩)
     ·exact .inr h2
    ·simp only[h,if_false] at hq;cases hq
 have aj1:i<xs.length:=by omega
 rcases hX with⟨h0,_⟩ |⟨g,cur,τ,rfl,hg,hw,hs,hm,u6⟩
 ·rw[h0] at aj1;simp at aj1
 have hgv:vb≠g:=fun e=>by rw[e,hg] at hvg;cases hvg
 have hns:xs.length*t.size≤c*t.size:=Nat.mul_le_mul_right _ hc
 have hct:cur.toList.length=c*t.size:=by simpa using hs
 obtain⟨rows,hrw⟩:∃ rows,rows=cur.toList.take (xs.length*t.size):=⟨_,rfl⟩
 have iY:rows.length=xs.length*t.size:=by rw[hrw,List.length_take,hct];omega
 have gM:∀ k (hk:k<xs.length),M w (Av σ B) H t me xs[k] ((rows.drop (k*t.size)).take t.size) (fun g'=>(σ g'=some 0∧g'≠g)∧τ g'=k) []:=fun k hk=>by
  rw[hrw,oq hk]
  exact u6 k hk
 have h1c:∀ u∈rows,u.oneCell'=true:=by
  rw[hrw]
  exact ot xs.length fun k hk u hu=>(eH t (u6 k hk)).2 u hu
 have eS:∀ j u,rows[j]?=some u→w.cell? ⟨g,0+j,none⟩=some u:=fun j u hj=>by
  rw[hrw,List.getElem?_take] at hj
  split at hj
  ·rw[Nat.zero_add];exact aeh hw hj
  ·cases hj
 have axa:g<w.heap.size:=a8 hw
 have axb:vb<w.heap.size:=a8 hvw
 have QM:i*t.size≤xs.length*t.size:=Nat.mul_le_mul_right _ hi
 have G':(rows.drop (i*t.size)).length=xs.length*t.size - i*t.size:=by rw[List.length_drop,iY]
 have em:(i+vs.length)*t.size=i*t.size+vs.length*t.size:=Nat.add_mul _ _ _
 have en:(xs.length+vs.length)*t.size=xs.length*t.size+vs.length*t.size:=Nat.add_mul _ _ _
 have hdo:∀ u∈rows.drop (i*t.size),u.oneCell'=true:=fun u hu=>h1c u (List.mem_of_mem_drop hu)
 by_cases rZ:xs.length+vs.length≤c
 ·-- room
  have hrs:(xs.length+vs.length)*t.size≤c*t.size:=Nat.mul_le_mul_right _ rZ
  have axc:w.drew.heap[g]?=some (.cells cur (ρ.t 9) (0,0)):=hw
  refine .inl ⟨QP,(J0 L g 0 xs.length c i vb 0 vs.length vc rows cT w aj1 YE rZ J1.1 hgv iY Iu eS (fun j hj=>by
    rw[Nat.zero_add]
    have:j<cur.size:=by omega
    simp[World.cell?,hw,this]) (fun j hj=>J2 hw) aej h1c h1v (ρ.t 9) (ρ.t 9) arY.size cur.size (by simp[World.shape?,hvw]) (by simp[World.shape?,hw]) (fun h=>by have h1:0<c*t.size:=Nat.mul_pos (by omega) Dd;omega) (J2 hvw) (J2 hvw)).mono fun en w2 he=>?_⟩
  obtain⟨rfl,rH⟩:=he
  simp only[Nat.zero_add] at rH
  have ZQ:(i+vs.length)*t.size+(rows.drop (i*t.size)).length≤cur.size:=by rw[G'];omega
  have hL1:=iv cur.toList (rows.drop (i*t.size)) ((i+vs.length)*t.size) (by simpa using ZQ)
  rw[cV (w:=w.drew) (g:=g) (t:=ρ.t 9) (cur:=cur) hw ZQ hdo,
   cV (g:=g) (t:=ρ.t 9) (cur:=(Go.Pv.putCells cur.toList ((i+vs.length)*t.size) (rows.drop (i*t.size))).toArray) (setRow_heap w.drew g cur _ (ρ.t 9) (0,0) hw) (by rw[List.size_toArray,hL1,Iu,hct];omega) h1v,setRow_setRow] at rH
  subst rH
  simp only[List.toList_toArray]
  obtain⟨d1,d2⟩:=(Iv (s:=t.size) (i:=i) (m:=vs.length) (n:=xs.length) (base:=cur.toList) (rows:=rows) (cT:=cT) (by rw[hct];omega) iY Iu hi (fun q hq=>by rw[hrw,List.getElem?_take,if_pos (by omega)]) trivial).1
  obtain⟨gk,OH⟩:∃ gk,gk=Go.Pv.putCells (Go.Pv.putCells cur.toList ((i+vs.length)*t.size) (rows.drop (i*t.size))) (i*t.size) cT:=⟨_,rfl⟩
  rw[←OH] at d1 d2 ⊢
  have gd:(w.drew.setRow g gk.toArray).heap[g]?=some (.cells gk.toArray (ρ.t 9) (0,0)):=setRow_heap w.drew g cur _ (ρ.t 9) (0,0) hw
  have ln:∀ g',g'≠g→(w.drew.setRow g gk.toArray).heap[g']?=w.heap[g']?:=fun g' h=>setRow_other w.drew g g' _ h
  have SM:(w.drew.setRow g gk.toArray).heap.size=w.heap.size:=setRow_size w.drew g _
  let dq:Nat→Option Nat:=fun g'=>if σ g'=some 0∨σ g'=some 2 then some 0 else none
  have SN:∀ g' q,dq g'=some q↔(σ g'=some 0∨σ g'=some 2)∧q=0:=fun g' q=>by
   simp only[dq]
   split
   ·rename_i h;exact⟨fun e=>⟨h,by injection e with e;exact e.symm⟩,fun e=>by rw[e.2]⟩
   ·rename_i h;exact⟨fun e=>(by cases e),fun e=>absurd e.1 h⟩
  have Z9:∀ g' q,dq g'=some q→Own σ g':=fun g' q h=>by
   rcases((SN g' q).1 h).1 with h |h
   ·exact⟨0,h⟩
   ·exact⟨2,h⟩
  refine⟨_,hr,⟨rfl,rfl,rfl,by rw[SM];exact Nat.le_refl _,fun g' _ YM=>ln g' fun e=>YM ⟨0,by rw[e];exact hg⟩⟩,dq,[.slice (some ⟨g,0,none⟩) (xs.length+vs.length) c],rfl,rfl,fun g' q bd=>⟨.inr (Z9 g' q bd),by obtain⟨q',rv⟩:=Z9 g' q bd;rw[SM];exact(fh.lt g' q' rv).2⟩,fun q b hb=>?_,fun d hd=>(by cases hd)⟩
  cases q with
  |succ q=>simp at hb
  |zero=>
   simp only[List.getElem?_cons_zero,Option.some.injEq] at hb
   subst hb
   refine⟨_,[.slice (some ⟨g,0,none⟩) (xs.length+vs.length) c],rfl,by simp[an,isAgg],?_⟩
   have bO:aO w (w.drew.setRow g gk.toArray) (Av σ B) (Av dq B):=⟨fun g' YM _=>ln g' fun e=>YM (.inl ⟨0,by rw[e];exact hg⟩),fun g' _ bd=>bd.imp (fun⟨q,hq⟩=>Z9 g' q hq) id⟩
   refine OK (P0:=fun g'=>σ g'=some 0∧g'≠g) (P2:=fun g'=>σ g'=some 2∧g'≠vb) hi bO (fun g' h=>⟨(SN g' 0).2 ⟨.inl h.1,rfl⟩,h.2,fun e=>by rw[h.1] at e;cases e.1⟩)
    (fun g' h=>⟨(SN g' 0).2 ⟨.inr h.1,rfl⟩,fun e=>by rw[e,hg] at h;cases h.1⟩) (fun g' h=>ln g' ?_) ((SN g 0).2 ⟨.inl hg,rfl⟩) gd (by rw[List.size_toArray,d1,hct]) hm rZ gM aei (by rw[List.toList_toArray];exact d2)
   rcases h with h |h
   ·exact h.2
   ·intro e;rw[e,hg] at h;cases h.1
 ·have abL:(xs.length+vs.length)*i0.bytes≤140737488355328:=by
   have e1:(xs.length+vs.length)*i0.bytes≤(xs.length+vs.length)*(32*t.size):=Nat.mul_le_mul_left _ L.hby
   have e2:(xs.length+vs.length)*(32*t.size)=32*((xs.length+vs.length)*t.size):=by rw[Nat.mul_left_comm]
   omega
  refine .inl ⟨QP,(OJ L g 0 xs.length c i vb 0 vs.length vc rows cT w aj1 YE hc (by omega) J1.1 abL abK iY Iu axa axb eS aej h1c h1v).mono fun en w2 he=>?_⟩
  obtain⟨rfl,rH⟩:=he
  obtain⟨G,hG⟩:∃ G,G=grownCap w (xs.length+vs.length) c (ρ.t 9):=⟨_,rfl⟩
  have hGn:xs.length+vs.length≤G:=by rw[hG];exact grownCap_ge w _ _ _
  have hGm:G≤maxLen:=by rw[hG];exact grownCap_le_maxLen w (xs.length+vs.length) c (ρ.t 9) (by omega)
  rw[←hG] at rH ⊢
  obtain⟨uj,SR⟩:∃ uj:Array Value,uj=(rows.take (i*t.size)).toArray++Builtin.zeroCells zs (xs.length+vs.length - i)++Builtin.zeroCells zs (G - (xs.length+vs.length)):=⟨_,rfl⟩
  rw[←SR] at rH
  have hRs:uj.size=G*t.size:=by
   have e1:i*t.size+(xs.length+vs.length - i)*t.size+(G - (xs.length+vs.length))*t.size=G*t.size:=by rw[←Nat.add_mul,←Nat.add_mul];congr 1;omega
   rw[SR,Array.size_append,Array.size_append,List.size_toArray,List.length_take,iY]
   simp only[Builtin.zeroCells,Array.size_map,Array.size_range,L.hz]
   omega
  have awo:∀ q,q<i*t.size→uj.toList[q]?=rows[q]?:=fun q hq=>by
   rw[SR,Array.toList_append,Array.toList_append,List.toList_toArray,List.append_assoc,List.getElem?_append_left (by rw[List.length_take,iY];omega),List.getElem?_take,if_pos hq]
  have hRt:uj.toList.length=G*t.size:=by simpa using hRs
  have hGs:(xs.length+vs.length)*t.size≤G*t.size:=Nat.mul_le_mul_right _ hGn
  have hA0:((w.alloc (.cells uj (ρ.t 9))).drew).heap[w.heap.size]?=some (.cells uj (ρ.t 9) (0,0)):=heap_alloc_new w _
  have ZQ:i*t.size+cT.length≤uj.size:=by rw[Iu,hRs];omega
  have hL1:=iv uj.toList cT (i*t.size) (by simpa using ZQ)
  rw[cV (w:=(w.alloc (.cells uj (ρ.t 9))).drew) (g:=w.heap.size) (t:=ρ.t 9) (cur:=uj) hA0 ZQ h1v] at rH
  have hA1:(((w.alloc (.cells uj (ρ.t 9))).drew.setRow w.heap.size (Go.Pv.putCells uj.toList (i*t.size) cT).toArray).drew).heap[w.heap.size]?=some (.cells (Go.Pv.putCells uj.toList (i*t.size) cT).toArray (ρ.t 9) (0,0)):=setRow_heap _ _ uj _ (ρ.t 9) (0,0) hA0
  rw[cV (g:=w.heap.size) (t:=ρ.t 9) (cur:=(Go.Pv.putCells uj.toList (i*t.size) cT).toArray) hA1 (by rw[List.size_toArray,hL1,G',hRt];omega) hdo] at rH
  simp only[List.toList_toArray] at rH
  obtain⟨d1,d2⟩:=(Iv (s:=t.size) (i:=i) (m:=vs.length) (n:=xs.length) (base:=uj.toList) (rows:=rows) (cT:=cT) (by rw[hRt];omega) iY Iu hi awo trivial).2
  obtain⟨gk,OH⟩:∃ gk,gk=Go.Pv.putCells (Go.Pv.putCells uj.toList (i*t.size) cT) ((i+vs.length)*t.size) (rows.drop (i*t.size)):=⟨_,rfl⟩
  rw[←OH] at d1 d2 rH
  have gd:w2.heap[w.heap.size]?=some (.cells gk.toArray (ρ.t 9) (0,0)):=by rw[rH];exact setRow_heap _ _ _ _ (ρ.t 9) (0,0) hA1
  have ln:∀ g',g'<w.heap.size→w2.heap[g']?=w.heap[g']?:=fun g' h=>by
   rw[rH,setRow_other _ _ _ _ (by omega)]
   show(World.setRow _ _ _).heap[g']?=_
   rw[setRow_other _ _ _ _ (by omega)]
   exact heap_alloc_old w _ h
  have SM:w2.heap.size=w.heap.size+1:=by
   rw[rH,setRow_size]
   show(World.setRow _ _ _).heap.size=_
   rw[setRow_size]
   show(w.alloc _).heap.size=_
   simp
  have qW:w2.os=w.os∧w2.tape=w.tape∧w2.output=w.output:=by rw[rH];exact⟨rfl,rfl,rfl⟩
  let dq:Nat→Option Nat:=fun g'=>if σ g'=some 0∨σ g'=some 2∨g'=w.heap.size then some 0 else none
  have SN:∀ g' q,dq g'=some q↔(σ g'=some 0∨σ g'=some 2∨g'=w.heap.size)∧q=0:=fun g' q=>by
   simp only[dq]
   split
   ·rename_i h;exact⟨fun e=>⟨h,by injection e with e;exact e.symm⟩,fun e=>by rw[e.2]⟩
   ·rename_i h;exact⟨fun e=>(by cases e),fun e=>absurd e.1 h⟩
  have Z9:∀ g' q,dq g'=some q→Own σ g'∨g'=w.heap.size:=fun g' q h=>by
   rcases((SN g' q).1 h).1 with h |h |h
   ·exact .inl ⟨0,h⟩
   ·exact .inl ⟨2,h⟩
   ·exact .inr h
  refine⟨_,hr,⟨qW.1,qW.2.1,qW.2.2,by rw[SM];omega,fun g' h _=>ln g' h⟩,dq,[.slice (some ⟨w.heap.size,0,none⟩) (xs.length+vs.length) G],rfl,rfl,fun g' q bd=>?_,fun q b hb=>?_,fun d hd=>(by cases hd)⟩
  ·rcases Z9 g' q bd with h |h
   ·refine⟨.inr h,?_⟩
    obtain⟨q',rv⟩:=h
    have:=(fh.lt g' q' rv).2
    omega
   ·exact⟨.inl (by omega),by omega⟩
  cases q with
  |succ q=>simp at hb
  |zero=>
   simp only[List.getElem?_cons_zero,Option.some.injEq] at hb
   subst hb
   refine⟨_,[.slice (some ⟨w.heap.size,0,none⟩) (xs.length+vs.length) G],rfl,by simp[an,isAgg],?_⟩
   have bO:aO w w2 (Av σ B) (Av dq B):=⟨fun g' _ h=>ln g' h,fun g' h bd=>bd.imp (fun⟨q,hq⟩=>(Z9 g' q hq).resolve_right (by omega)) id⟩
   refine OK (P0:=fun g'=>σ g'=some 0∧g'≠g) (P2:=fun g'=>σ g'=some 2∧g'≠vb) hi bO (fun g' h=>⟨(SN g' 0).2 ⟨.inl h.1,rfl⟩,fun e=>?_,fun e=>by rw[h.1] at e;cases e.1⟩)
    (fun g' h=>⟨(SN g' 0).2 ⟨.inr (.inl h.1),rfl⟩,fun e=>?_⟩) (fun g' h=>ln g' ?_) ((SN w.heap.size 0).2 ⟨.inr (.inr rfl),rfl⟩) gd (by rw[List.size_toArray,d1,hRt]) hGm hGn gM aei (by rw[List.toList_toArray];exact d2)
   ·have:=(fh.lt g' 0 h.1).2;omega
   ·have:=(fh.lt g' 2 h.1).2;omega
   ·rcases h with h |h
    ·exact(fh.lt g' 0 h.1).2
    ·exact(fh.lt g' 2 h.1).2
end
end Go.Pv
