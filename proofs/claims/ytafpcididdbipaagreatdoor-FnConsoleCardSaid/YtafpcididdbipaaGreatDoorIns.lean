/- Functions of the library (Ins): what is told of them holds. -/
import Derived.Test.YtafpcididdbipaaGreatDoorDel
import Derived.Shelf.Lays2
import Derived.Lib.JoinLaws
import Derived.Lib.AppendZeros
import Derived.Lib.AppendZerosOnto
import Derived.Lib.Overlaps
import Derived.Laws.Externs
import Derived.Laws.IdiomCopy
import Derived.Laws.NewBlocks
set_option linter.unusedSimpArgs false
set_option linter.unusedVariables false
namespace Go.Pv
open List Int IntKind
open Go.Shelf Go.RowKit Go.Proofs
section
variable {P:Program} {ρ:Ren}
theorem xR (w:World) (dT sT ty elem:TypeId) (b o apu atB:Nat) (a:Addr) (apv atC:Nat) (cs:List Value) (s:Nat) (hu:P.underlying dT=some (.slice elem)) (hs:(P.info? elem).map (·.size)=some s) (hn:cs.length=Nat.min apv apu*s) (Ha:∀ j v,cs[j]?=some v->w.cell? (a.add j)=some v) (hc:∀ j,j<cs.length->(w.cell? ⟨b,o+j,none⟩).isSome=true) (hf:∀ j,j<cs.length->w.frozen? ⟨b,o+j,none⟩=false) (h1:∀ v∈cs,v.oneCell'=true): (Builtin.copy_ #[dT,sT] ty #[.slice (some ⟨b,o,none⟩) apu atB,.slice (some a) apv atC]).run P w=.ok (goInt (Nat.min apv apu)) (w.setCells b o cs):=by
 have hl:=run_loadCells_list (P:=P) w a cs Ha;have cP:=run_storeCells_cells (P:=P) b o cs 0 w (by simpa using hc) (by simpa using hf) h1;cases hq:P.info? elem with
 |none=>simp[hq] at hs
 |some i=>have hi:i.size=s:=(by simpa[hq] using hs);simp[Builtin.copy_,run_underlying hu,Builtin.lenOf,Builtin.firstCells,sizeOf,typeInfo,hq,hi,←hn,hl,cP]
theorem aaz (w:World) {o:Oper} {a:Act} {K:Act->World->Prop} {Q:Exit->Act->World->Prop} (d s:Operand) (t t':TypeId) (ho:o.op=.call { callee:=.builtin .copy,args:=#[d,s],argTypes:=#[t,t'] }) (v u:Value) (hd:a.eval d=v) (hs:a.eval s=u) {v':Value} {w':World} (hr:(Builtin.copy_ #[t,t'] o.type #[v,u]).run P w=.ok v' w') (h:K (a.put o.dst v') w'):o.wp P a w K Q:=by unfold Oper.wp execOp;simp only[ho,resolve,invoke,builtin,Sem.run_bind,Sem.run_pure,Result.andThen_ok,List.map_toArray,List.map_cons,List.map_nil,hd,hs,hr];exact h
theorem yS (w:World) {ops:Array Oper} {rest:List Oper} {o:Oper} {a:Act} {Q:Exit->Act->World->Prop} (hgd:o.guard=none) (d s:Operand) (t t':TypeId) (ho:o.op=.call { callee:=.builtin .copy,args:=#[d,s],argTypes:=#[t,t'] }) (v u:Value) (hd:a.eval d=v) (hs:a.eval s=u) {v':Value} {w':World} (hr:(Builtin.copy_ #[t,t'] o.type #[v,u]).run P w=.ok v' w') (h:wpList P ops Q rest (a.put o.dst v') w'):wpList P ops Q (o::rest) a w:=wpList_plain hgd λ_ hK=>aaz w d s t t' ho v u hd hs hr (hK _ _ h)
theorem J8 {ops:Array Oper} {o:Oper} {a:Act} {w:World} {K:Act->World->Prop} {Q:Exit->Act->World->Prop} {E:Prop} (hg:o.guard=none) (d x:Operand) (dT sT:TypeId) (cw:o.op=Op.call { callee:=Callee.builtin Builtin.copy,args:=#[d,x],argTypes:=#[dT,sT] }) (v u:Value) (hd:a.eval d=v) (hx:a.eval x=u) {v':Value} {w':World} (hr:(Builtin.copy_ #[dT,sT] o.type #[v,u]).run P w=.ok v' w') (hK:K (a.put o.dst v') w'): if Region.wanted o (yielded ops a.tmps)=true then Oper.wp P o a w K Q else E:=by
 have hw:Region.wanted o (yielded ops a.tmps)=true:=by simp[Region.wanted,hg]
 rw[if_pos hw];unfold Oper.wp;simp[execOp,cw,resolve,invoke,builtin,hd,hx,hr,Result.andThen];exact hK
structure V0 (P:Program) (ρ:Ren) (s:Nat) (zs:Array Value) (i0:TypeInfo):Prop where
 mixed:P.follows .mixedOrders=true
 FB:Bears P (ρ.f 22) (Body2.n22 ρ)
 FO : ∃ fn : Func, P.funcs[ρ.f 29]? = some fn ∧ (fn.name == "runtime.NumGoroutine") = false ∧ fn.body.isNone = true ∧ Extern.findNext fn = none ∧ Extern.find fn = some (Extern.SlicesOverlaps.overlaps #[ρ.t 24, ρ.t 24] #[ρ.t 4])
 t0:P.underlying (ρ.t 0)=some (TypeDesc.tuple #[])
 a0:∀ w,(Go.isAgg (ρ.t 0)).run P w=.ok false w
 z0:∀ w,(Go.sizeOf (ρ.t 0)).run P w=.ok 1 w
 v0:∀ w,(zeroValue (ρ.t 0)).run P w=.ok (Value.tuple #[]) w
 t3:P.underlying (ρ.t 3)=some (TypeDesc.int IntKind.i64)
 a3:∀ w,(Go.isAgg (ρ.t 3)).run P w=.ok false w
 z3:∀ w,(Go.sizeOf (ρ.t 3)).run P w=.ok 1 w
 v3:∀ w,(zeroValue (ρ.t 3)).run P w=.ok (Value.int IntKind.i64 0) w
 t4:P.underlying (ρ.t 4)=some (TypeDesc.bool)
 a4:∀ w,(Go.isAgg (ρ.t 4)).run P w=.ok false w
 z4:∀ w,(Go.sizeOf (ρ.t 4)).run P w=.ok 1 w
 v4:∀ w,(zeroValue (ρ.t 4)).run P w=.ok (Value.bool false) w
 t24:P.underlying (ρ.t 24)=some (TypeDesc.slice (ρ.t 9))
 a24:∀ w,(Go.isAgg (ρ.t 24)).run P w=.ok false w
 z24:∀ w,(Go.sizeOf (ρ.t 24)).run P w=.ok 1 w
 v24:∀ w,(zeroValue (ρ.t 24)).run P w=.ok (Value.slice none 0 0) w
 z9:∀ w,(Go.sizeOf (ρ.t 9)).run P w=.ok s w
 hz:zs.size=s
 hzo:zs.toList.all (λu=>u.oneCell')=true
 WG:P.info? (ρ.t 9)=some i0
 hz0:i0.zero=some (.agg zs)
 Wt:i0.size=s
 hby:i0.bytes<=32*s
 Qk:0<s
variable {s:Nat} {zs:Array Value} {i0:TypeInfo}
set_option maxHeartbeats 4000000 in
set_option maxRecDepth 100000 in
theorem Xy (L:V0 P ρ s zs i0) (b off n c i vb Lk m vc:Nat) (cs vs:List Value) (w:World) (hi:i<n) (hm:0<m) (FV:n+m<=c) (Xz:c<=9223372036854775807) (hvb:vb≠b) (rX:cs.length=n*s) (V1:vs.length=m*s) (qk:∀ j v,cs[j]?=some v->w.cell? ⟨b,off+j,none⟩=some v) (hsp:∀ j,j<(n+m)*s->(w.cell? ⟨b,off+j,none⟩).isSome=true) (hfz:∀ j,j<(n+m)*s->w.frozen? ⟨b,off+j,none⟩=false) (hvs:∀ j v,vs[j]?=some v->w.cell? ⟨vb,Lk+j,none⟩=some v) (h1c:∀ v∈cs,v.oneCell'=true) (h1v:∀ v∈vs,v.oneCell'=true) (tA tB:TypeId) (kA kB:Nat) (hsa:w.shape? vb=some (tA,kA)) (hsb:w.shape? b=some (tB,kB)) (hkB:kB≠0) (hfa:w.frozen? ⟨vb,Lk,none⟩=false) (hfe:w.frozen? ⟨vb,kA,none⟩=false): Calls P (ρ.f 22) #[.slice (some ⟨b,off,none⟩) n c,.int .i64 i,.slice (some ⟨vb,Lk,none⟩) m vc] w λe w'=> e=.returned (.slice (some ⟨b,off,none⟩) (n+m) c)/\w'=(w.drew.setCells b (off+(i+m)*s) (cs.drop (i*s))).setCells b (off+i*s) vs:=by
 have t0:=L.t0;have a0:=L.a0;have z0:=L.z0;have v0:=L.v0;have t3:=L.t3;have a3:=L.a3;have z3:=L.z3;have v3:=L.v3;have t4:=L.t4;have a4:=L.a4;have z4:=L.z4;have v4:=L.v4;have z9:=L.z9;have t24:=L.t24;have a24:=L.a24;have z24:=L.z24;have v24:=L.v24;have u0:=run_underlying L.t0;have u3:=run_underlying L.t3;have u4:=run_underlying L.t4;have u24:=run_underlying L.t24;have Wt: ¬((m:Int)=0):=by omega
 have hz2: ¬((i:Int)=(n:Int)):=by omega
 have pL:(P.info? (ρ.t 9)).map (·.size)=some s:=by rw[L.WG];simp[L.Wt]
 have hov:∀ lb cb,(callFunc (ρ.f 29) #[.slice (some ⟨vb,Lk,none⟩) m vc,.slice (some ⟨b,off+(i+m)*s,none⟩) lb cb]).run P w=.ok (.value (.bool false)) w:=λlb cb=>by
  obtain⟨fn,o1,o2,o3,o4,o5⟩:=L.FO;rw[run_callFunc_extern o1 o2 o3 o4 o5,
   Lib.run_overlaps_apart w (ρ.t 24) (ρ.t 4) (ρ.t 9) L.t24 s L.z9 ⟨vb,Lk,none⟩ ⟨b,off+(i+m)*s,none⟩ m vc lb cb hvb tA tB kA kB hsa hsb hkB hfa hfe]
  rfl
 have Vd:i*s<=n*s:=Nat.mul_le_mul_right s (by omega);have apw:(i+m)*s+(n - i)*s=(n+m)*s:=by rw[←Nat.add_mul];congr 1;omega
 have asy:i*s+(n - i)*s=n*s:=by rw[←Nat.add_mul];congr 1;omega
 have ajw:i*s+m*s<=(n+m)*s:=by rw[←Nat.add_mul];exact Nat.mul_le_mul_right s (by omega)
 have Uo:(cs.drop (i*s)).length=(n - i)*s:=by rw[List.length_drop,rX,Nat.sub_mul]
 have mixed:=L.mixed;have hw1:IntKind.i64.wrap ((i:Int)+(m:Int))=(i:Int)+(m:Int):=by rw[IntKind.wrap_i64];omega
 have hb1:(0:Int)<=(i:Int)+(m:Int):=by omega
 have gl:i<=n:=by omega
 have htn:((i:Int)+(m:Int)).toNat=i+m:=by omega
 have hb2: ¬(c=i+m):=by omega
 have hb3:(i:Int)<=(n:Int)+(m:Int):=by omega
 have hb4: ¬(c=i):=by omega
 have acW:Nat.min (n+m - i) (n+m - (i+m))=n - i:=by show min (n+m - i) (n+m - (i+m))=n - i;omega
 have acX:Nat.min m (n+m - i)=m:=by show min m (n+m - i)=m;omega
 have asz:∀ ty dc sc,(Builtin.copy_ #[(ρ.t 24),(ρ.t 24)] ty #[.slice (some ⟨b,off+(i+m)*s,none⟩) (n+m - (i+m)) dc,.slice (some ⟨b,off+i*s,none⟩) (n+m - i) sc]).run P w.drew=.ok (goInt ((n - i:Nat):Int)) (w.drew.setCells b (off+(i+m)*s) (cs.drop (i*s))):=λty dc sc=>by
  have:=xR (P:=P) w.drew (ρ.t 24) (ρ.t 24) ty (ρ.t 9) b (off+(i+m)*s) (n+m - (i+m)) dc ⟨b,off+i*s,none⟩ (n+m - i) sc (cs.drop (i*s)) s L.t24 pL (by rw[Uo,acW])
   (λj v hj=>by rw[Addr.add_lit,Nat.add_assoc];exact qk (i*s+j) v (by rwa [List.getElem?_drop] at hj))
   (λj hj=>by rw[Nat.add_assoc];exact hsp _ (by rw[Uo] at hj;omega)) (λj hj=>by rw[Nat.add_assoc];exact hfz _ (by rw[Uo] at hj;omega)) (λv hv=>h1c v (List.mem_of_mem_drop hv))
  rwa [acW] at this
 obtain⟨W1,hW1⟩:∃ W1,W1=w.drew.setCells b (off+(i+m)*s) (cs.drop (i*s)):=⟨_,rfl⟩;have A6:∀ (vs:List Value) (o:Nat) (w:World) (h:∀ j,j<vs.length->(w.cell? ⟨b,o+j,none⟩).isSome=true) (k:Nat) (hk:(w.cell? ⟨b,k,none⟩).isSome=true),((w.setCells b o vs).cell? ⟨b,k,none⟩).isSome=true:=λvs o w h k hk=>by
  by_cases gl:o<=k/\k<o+vs.length
  ·have:=World.cell?_setCells_in b vs o w h (k - o) (by omega);rw[show o+(k - o)=k by omega] at this;rw[this];rfl
  rw[World.cell?_setCells_out b vs o w ⟨b,k,none⟩ (λ_ _=>by show k<o∨o+vs.length<=k;omega)];exact hk
 have asA:∀ k,k<(n+m)*s->(W1.cell? ⟨b,off+k,none⟩).isSome=true:=λk hk=>by rw[hW1];exact A6 _ _ _ (λj hj=>by rw[Nat.add_assoc];exact hsp _ (by rw[Uo] at hj;omega)) _ (hsp k hk)
 have atD:∀ (W:World),(∀ x,W.cell? x=W1.cell? x)->(∀ x,W.frozen? x=W1.frozen? x)->∀ ty dc,(Builtin.copy_ #[(ρ.t 24),(ρ.t 24)] ty #[.slice (some ⟨b,off+i*s,none⟩) (n+m - i) dc,.slice (some ⟨vb,Lk,none⟩) m vc]).run P W=.ok (goInt m) (W.setCells b (off+i*s) vs):=λW hWc hWf ty dc=>by
  have:=xR (P:=P) W (ρ.t 24) (ρ.t 24) ty (ρ.t 9) b (off+i*s) (n+m - i) dc ⟨vb,Lk,none⟩ m vc vs s L.t24 pL (by rw[V1,acX])
   (λj v hj=>by
    rw[Addr.add_lit,hWc,hW1,World.cell?_setCells_out b _ _ _ _ (λh _=>absurd h hvb)]
    exact hvs j v hj)
   (λj hj=>by rw[hWc,Nat.add_assoc];exact asA _ (by rw[V1] at hj;omega)) (λj hj=>by rw[hWf,hW1,World.frozen?_setCells,Nat.add_assoc];exact hfz _ (by rw[V1] at hj;omega)) h1v
  rwa [acX] at this
 rw[←hW1] at asz;obtain⟨_,_,FG⟩:=L.FB;clear A6 asA apw asy ajw Vd Uo acW acX;go_enter FG,Body2.n22_ntmps ρ;go_wp2_with (simp only[hov]);go_region_law_o (refine J8 rfl _ _ (ρ.t 24) (ρ.t 24) rfl _ _ (by simp[Act.eval,Act.put]) (by simp[Act.eval,Act.put]) (asz _ _ _) ?_);go_wp2_with (at_builtin;refine yS _ rfl _ _ (ρ.t 24) (ρ.t 24) rfl _ _ rfl rfl (atD _ (λ_=>rfl) (λ_=>rfl) _ _) ?_);go_ret;first |exact⟨rfl,rfl⟩ |exact⟨rfl,by rw[hW1]⟩
set_option maxHeartbeats 4000000 in
set_option maxRecDepth 100000 in
theorem acY (L:V0 P ρ s zs i0) (X:Option Addr) (n c vb Lk m vc:Nat) (w w':World) (v':Value) (hm:0<m) (hnc:n<=c) (Xz:c<=9223372036854775807) (hX:X=none->c=0) (dp:∀ ty,(Builtin.append_ #[(ρ.t 24),(ρ.t 24)] ty #[.slice X n c,.slice (some ⟨vb,Lk,none⟩) m vc]).run P w=.ok v' w'): Calls P (ρ.f 22) #[.slice X n c,.int .i64 n,.slice (some ⟨vb,Lk,none⟩) m vc] w λe w2=>e=.returned v'/\w2=w':=by
 have t0:=L.t0;have a0:=L.a0;have z0:=L.z0;have v0:=L.v0;have t3:=L.t3;have a3:=L.a3;have z3:=L.z3;have v3:=L.v3;have t4:=L.t4;have a4:=L.a4;have z4:=L.z4;have v4:=L.v4;have z9:=L.z9;have t24:=L.t24;have a24:=L.a24;have z24:=L.z24;have v24:=L.v24;have u0:=run_underlying L.t0;have u3:=run_underlying L.t3;have u4:=run_underlying L.t4;have u24:=run_underlying L.t24;have mixed:=L.mixed;have Wt: ¬((m:Int)=0):=by omega
 obtain⟨_,_,FG⟩:=L.FB;cases X with
 |none=>obtain rfl:=hX rfl;obtain rfl:n=0:=(by omega);go_enter FG,Body2.n22_ntmps ρ;go_wp2_with (at_builtin;refine Lib.wpList_append_run _ rfl _ _ _ _ rfl _ _ rfl rfl _ _ (dp _) ?_);all_goals (go_ret;exact⟨rfl,rfl⟩)
 |some A=>go_enter FG,Body2.n22_ntmps ρ;go_wp2_with (at_builtin;refine Lib.wpList_append_run _ rfl _ _ _ _ rfl _ _ rfl rfl _ _ (dp _) ?_);all_goals (go_ret;exact⟨rfl,rfl⟩)
set_option maxHeartbeats 4000000 in
set_option maxRecDepth 100000 in
theorem aaA (L:V0 P ρ s zs i0) (b off n c i vb Lk m vc:Nat) (cs vs:List Value) (w:World) (hi:i<n) (hm:0<m) (hnc:n<=c) (FV:c<n+m) (Xz:c<=9223372036854775807) (aar:(n+m)*i0.bytes<=140737488355328) (hbl:n+m<=4398046511104) (rX:cs.length=n*s) (V1:vs.length=m*s) (hbw:b<w.heap.size) (hvw:vb<w.heap.size) (qk:∀ j v,cs[j]?=some v->w.cell? ⟨b,off+j,none⟩=some v) (hvs:∀ j v,vs[j]?=some v->w.cell? ⟨vb,Lk+j,none⟩=some v) (h1c:∀ v∈cs,v.oneCell'=true) (h1v:∀ v∈vs,v.oneCell'=true): Calls P (ρ.f 22) #[.slice (some ⟨b,off,none⟩) n c,.int .i64 i,.slice (some ⟨vb,Lk,none⟩) m vc] w λe w'=> e=.returned (.slice (some ⟨w.heap.size,0,none⟩) (n+m) (grownCap w (n+m) c (ρ.t 9)))/\ w'=(((w.alloc (.cells ((cs.take (i*s)).toArray++Builtin.zeroCells zs (n+m - i)++Builtin.zeroCells zs (grownCap w (n+m) c (ρ.t 9) - (n+m))) (ρ.t 9))).drew.setCells w.heap.size (i*s) vs).drew).setCells w.heap.size ((i+m)*s) (cs.drop (i*s)):=by
 have t0:=L.t0;have a0:=L.a0;have z0:=L.z0;have v0:=L.v0;have t3:=L.t3;have a3:=L.a3;have z3:=L.z3;have v3:=L.v3;have t4:=L.t4;have a4:=L.a4;have z4:=L.z4;have v4:=L.v4;have z9:=L.z9;have t24:=L.t24;have a24:=L.a24;have z24:=L.z24;have v24:=L.v24;have u0:=run_underlying L.t0;have u3:=run_underlying L.t3;have u4:=run_underlying L.t4;have u24:=run_underlying L.t24;have mixed:=L.mixed;have WG:=L.WG;have hz0:=L.hz0;have hzs:=L.Wt;have Wt: ¬((m:Int)=0):=by omega
 have hz2: ¬((i:Int)=(n:Int)):=by omega
 have hz3:(c:Int)<(n:Int)+(m:Int):=by omega
 have pL:(P.info? (ρ.t 9)).map (·.size)=some s:=by rw[WG];simp[hzs]
 have Vd:i*s<=n*s:=Nat.mul_le_mul_right s (by omega);have apw:(i+m)*s+(n - i)*s=(n+m)*s:=by rw[←Nat.add_mul];congr 1;omega
 have ajw:i*s+m*s<=(n+m)*s:=by rw[←Nat.add_mul];exact Nat.mul_le_mul_right s (by omega)
 have hkk:(n:Int)+(m:Int) - (i:Int)=((n+m - i:Nat):Int):=by omega
 have hik:i+(n+m - i)=n+m:=by omega
 have hold:(Builtin.firstCells i0.size i (.slice (some ⟨b,off,none⟩) i c)).run P w.drew=.ok (cs.take (i*s)).toArray w.drew:=by
  rw[hzs];exact run_firstCells_some w.drew s i ⟨b,off,none⟩ i c (cs.take (i*s)) (by rw[List.length_take];omega) (λj v hj=>by
   rw[Addr.add_lit]
   rw[List.getElem?_take] at hj
   split at hj
   ·exact qk j v hj
   ·cases hj)
 have hrz:∀ ty,(Builtin.append_ #[(ρ.t 24),(ρ.t 3)] ty #[.slice (some ⟨b,off,none⟩) i c,.int .i64 ((n:Int)+(m:Int) - (i:Int))]).run P w=
   .ok (.slice (some ⟨w.heap.size,0,none⟩) (n+m) (grownCap w (n+m) c (ρ.t 9))) (w.drew.alloc (.cells ((cs.take (i*s)).toArray++Builtin.zeroCells zs (n+m - i)++Builtin.zeroCells zs (grownCap w (n+m) c (ρ.t 9) - (n+m))) (ρ.t 9))):=λty=>by
  have hkb:(n+m - i)*i0.bytes<=(n+m)*i0.bytes:=Nat.mul_le_mul_right _ (by omega)
  have h:=Lib.run_append_grow_zeros w (ρ.t 24) (ρ.t 3) ty (ρ.t 9) i0 _ .i64 .i64 L.t24 L.t3 WG hz0 (some ⟨b,off,none⟩) i c (cs.take (i*s)) hold (n+m - i) (by omega) (by rw[hzs];exact L.Qk) (by omega) (by omega) (by omega) (by rw[hik];exact growslice_fits FV aar)
  rw[hik] at h
  rw[hkk]
  exact h
 obtain⟨G,hG⟩:∃ G,G=grownCap w (n+m) c (ρ.t 9):=⟨_,rfl⟩;obtain⟨Jr,acZ⟩:∃ Jr:Array Value,Jr=(cs.take (i*s)).toArray++Builtin.zeroCells zs (n+m - i)++Builtin.zeroCells zs (G - (n+m)):=⟨_,rfl⟩;rw[←hG] at hrz ⊢;rw[←acZ] at hrz ⊢;have hRl:(n+m)*s<=Jr.size:=by have e1:(n+m)*s=i*s+(n+m - i)*s:=(by rw[←Nat.add_mul,hik]);rw[acZ];simp only[Array.size_append,List.size_toArray,List.length_take,rX,Builtin.zeroCells,Array.size_map,Array.size_range,L.hz];omega
 obtain⟨W1,hW1⟩:∃ W1,W1=w.drew.alloc (.cells Jr (ρ.t 9)):=⟨_,rfl⟩;rw[←hW1] at hrz;have hN:∀ j,j<(n+m)*s->(W1.cell? ⟨w.heap.size,j,none⟩).isSome=true:=λj hj=>by rw[hW1,World.cell?_alloc_at (w:=w.drew) Jr _ w.heap.size j rfl,Array.getElem?_eq_getElem (by omega)];rfl
 have hNf:∀ j,W1.frozen? ⟨w.heap.size,j,none⟩=false:=λj=>by rw[hW1];exact World.frozen?_alloc_at (w:=w.drew) Jr _ w.heap.size j rfl
 have hOb:∀ j v,w.cell? ⟨b,j,none⟩=some v->W1.cell? ⟨b,j,none⟩=some v:=λj v h=>by rw[hW1,World.cell?_alloc_past (w:=w.drew) _ b j hbw];exact h
 have hOv:∀ j v,w.cell? ⟨vb,j,none⟩=some v->W1.cell? ⟨vb,j,none⟩=some v:=λj v h=>by rw[hW1,World.cell?_alloc_past (w:=w.drew) _ vb j hvw];exact h
 have acW:Nat.min m (n+m - i)=m:=by show min m (n+m - i)=m;omega
 have acX:Nat.min (n - i) (n+m - (i+m))=n - i:=by show min (n - i) (n+m - (i+m))=n - i;omega
 have atE:∀ (W:World),(∀ x,W.cell? x=W1.cell? x)->(∀ x,W.frozen? x=W1.frozen? x)->∀ ty dc,(Builtin.copy_ #[(ρ.t 24),(ρ.t 24)] ty #[.slice (some ⟨w.heap.size,i*s,none⟩) (n+m - i) dc,.slice (some ⟨vb,Lk,none⟩) m vc]).run P W=.ok (goInt m) (W.setCells w.heap.size (i*s) vs):=λW hWc hWf ty dc=>by
  have:=xR (P:=P) W (ρ.t 24) (ρ.t 24) ty (ρ.t 9) w.heap.size (i*s) (n+m - i) dc ⟨vb,Lk,none⟩ m vc vs s L.t24 pL (by rw[V1,acW])
   (λj v hj=>by rw[Addr.add_lit,hWc];exact hOv _ v (hvs j v hj))
   (λj hj=>by rw[hWc];exact hN _ (by rw[V1] at hj;omega)) (λj hj=>by rw[hWf];exact hNf _) h1v
  rwa [acW] at this
 have hGn:n+m<=G:=by rw[hG];exact grownCap_ge w _ _ _
 have at1:G<=9223372036854775807:=by have:=grownCap_le_maxLen w (n+m) c (ρ.t 9) (by unfold Go.maxLen;omega);rw[←hG] at this;unfold Go.maxLen at this;omega
 have hGi: ¬(G=i):=by omega
 have at2: ¬(G=i+m):=by omega
 have hci: ¬(c=i):=by omega
 have hbN:b≠w.heap.size:=by omega
 have Uo:(cs.drop (i*s)).length=(n - i)*s:=by rw[List.length_drop,rX,Nat.sub_mul]
 have A6:∀ (g:Nat) (vs:List Value) (o:Nat) (w:World) (h:∀ j,j<vs.length->(w.cell? ⟨g,o+j,none⟩).isSome=true) (k:Nat) (hk:(w.cell? ⟨g,k,none⟩).isSome=true),((w.setCells g o vs).cell? ⟨g,k,none⟩).isSome=true:=λg vs o w h k hk=>by
  by_cases gl:o<=k/\k<o+vs.length
  ·have:=World.cell?_setCells_in g vs o w h (k - o) (by omega);rw[show o+(k - o)=k by omega] at this;rw[this];rfl
  rw[World.cell?_setCells_out g vs o w ⟨g,k,none⟩ (λ_ _=>by show k<o∨o+vs.length<=k;omega)];exact hk
 have asB:∀ (W:World),(∀ x,W.cell? x=(W1.setCells w.heap.size (i*s) vs).cell? x)->(∀ x,W.frozen? x=(W1.setCells w.heap.size (i*s) vs).frozen? x)->∀ ty dc sc,(Builtin.copy_ #[(ρ.t 24),(ρ.t 24)] ty #[.slice (some ⟨w.heap.size,(i+m)*s,none⟩) (n+m - (i+m)) dc,.slice (some ⟨b,off+i*s,none⟩) (n - i) sc]).run P W=.ok (goInt ((n - i:Nat):Int)) (W.setCells w.heap.size ((i+m)*s) (cs.drop (i*s))):=λW hWc hWf ty dc sc=>by
  have:=xR (P:=P) W (ρ.t 24) (ρ.t 24) ty (ρ.t 9) w.heap.size ((i+m)*s) (n+m - (i+m)) dc ⟨b,off+i*s,none⟩ (n - i) sc (cs.drop (i*s)) s L.t24 pL (by rw[Uo,acX])
   (λj v hj=>by
    rw[Addr.add_lit,hWc,World.cell?_setCells_out _ _ _ _ _ (λh _=>absurd h hbN),Nat.add_assoc]
    exact hOb _ v (qk (i*s+j) v (by rwa [List.getElem?_drop] at hj)))
   (λj hj=>by rw[hWc];exact A6 _ _ _ _ (λt ht=>hN _ (by rw[V1] at ht;omega)) _ (hN _ (by rw[Uo] at hj;omega)))
   (λj hj=>by rw[hWf,World.frozen?_setCells];exact hNf _) (λv hv=>h1c v (List.mem_of_mem_drop hv))
  rwa [acX] at this
 subst hW1;have hE1:∀ x,((w.alloc (.cells Jr (ρ.t 9))).drew).cell? x=(w.drew.alloc (.cells Jr (ρ.t 9))).cell? x:=λx=>rfl;have hE2:∀ x,((w.alloc (.cells Jr (ρ.t 9))).drew).frozen? x=(w.drew.alloc (.cells Jr (ρ.t 9))).frozen? x:=λx=>rfl;have hF1:∀ x,(((w.alloc (.cells Jr (ρ.t 9))).drew.setCells w.heap.size (i*s) vs).drew).cell? x=((w.drew.alloc (.cells Jr (ρ.t 9))).setCells w.heap.size (i*s) vs).cell? x:=λx=>rfl;have hF2:∀ x,(((w.alloc (.cells Jr (ρ.t 9))).drew.setCells w.heap.size (i*s) vs).drew).frozen? x=((w.drew.alloc (.cells Jr (ρ.t 9))).setCells w.heap.size (i*s) vs).frozen? x:=λx=>rfl;have hw1:IntKind.i64.wrap ((i:Int)+(m:Int))=(i:Int)+(m:Int):=by rw[IntKind.wrap_i64];omega
 have hb1:(0:Int)<=(i:Int)+(m:Int):=by omega
 have gl:i<=n:=by omega
 have htn:((i:Int)+(m:Int)).toNat=i+m:=by omega
 have hb3:(i:Int)<=(n:Int):=by omega
 obtain⟨_,_,FG⟩:=L.FB;clear hkk hik hold acZ hG hRl Vd apw ajw acW acX A6 Uo;go_enter FG,Body2.n22_ntmps ρ;go_wp2_with (first
  |(at_builtin;refine Lib.wpList_append_run _ rfl _ _ _ _ rfl _ _ rfl rfl _ _ (hrz _) ?_)
  |(at_builtin;refine yS _ rfl _ _ (ρ.t 24) (ρ.t 24) rfl _ _ rfl rfl (atE _ hE1 hE2 _ _) ?_)
  |(at_builtin;refine yS _ rfl _ _ (ρ.t 24) (ρ.t 24) rfl _ _ rfl rfl (asB _ (λ_=>rfl) (λ_=>rfl) _ _ _) ?_))
 go_region_law_o (refine J8 rfl _ _ (ρ.t 24) (ρ.t 24) rfl (.slice (some ⟨w.heap.size,(i+m)*s,none⟩) (n+m - (i+m)) (G - (i+m))) (.slice (some ⟨b,off+i*s,none⟩) (n - i) (c - i)) (by simp[Act.eval,Act.put]) (by simp[Act.eval,Act.put]) (asB _ hF1 hF2 (ρ.t 3) (G - (i+m)) (c - i)) ?_);go_wp2;go_ret;exact⟨rfl,rfl⟩
end
section
variable {P:Program} {ρ:Ren}
theorem V2 {s i m n:Nat} {base rows gT:List Value} (hbl:(n+m)*s<=base.length) (hrl:rows.length=n*s) (V1:gT.length=m*s) (hi:i<=n) (Wx:∀ q,q<i*s->base[q]?=rows[q]?) (atN:True): ((Go.Pv.putCells (Go.Pv.putCells base ((i+m)*s) (rows.drop (i*s))) (i*s) gT).length=base.length/\ ∀ q,q<(n+m)*s->(Go.Pv.putCells (Go.Pv.putCells base ((i+m)*s) (rows.drop (i*s))) (i*s) gT)[q]?=if q<i*s then rows[q]? else if q<(i+m)*s then gT[q - i*s]? else rows[q - m*s]?)/\ ((Go.Pv.putCells (Go.Pv.putCells base (i*s) gT) ((i+m)*s) (rows.drop (i*s))).length=base.length/\ ∀ q,q<(n+m)*s->(Go.Pv.putCells (Go.Pv.putCells base (i*s) gT) ((i+m)*s) (rows.drop (i*s)))[q]?=if q<i*s then rows[q]? else if q<(i+m)*s then gT[q - i*s]? else rows[q - m*s]?):=by
 have e1:(i+m)*s=i*s+m*s:=Nat.add_mul _ _ _;have e2:(n+m)*s=n*s+m*s:=Nat.add_mul _ _ _;have e3:i*s<=n*s:=Nat.mul_le_mul_right s hi;have Uo:(rows.drop (i*s)).length=n*s - i*s:=by rw[List.length_drop,hrl]
 refine⟨?_,?_⟩
 ·have p1:(i+m)*s+(rows.drop (i*s)).length<=base.length:=(by rw[Uo];omega);have l1:=qo base (rows.drop (i*s)) ((i+m)*s) p1;have p2:i*s+gT.length<=(Go.Pv.putCells base ((i+m)*s) (rows.drop (i*s))).length:=(by rw[l1,V1];omega);refine⟨by rw[qo _ _ _ p2,l1],λq hq=>?_⟩;rw[qn _ _ _ _ p2,qn _ _ _ _ p1,V1,Uo];by_cases h1:q<i*s
  ·rw[if_pos h1,if_pos (by omega),if_pos h1,Wx q h1]
  rw[if_neg h1,if_neg h1];by_cases h2:q<(i+m)*s
  ·rw[if_pos (by omega),if_pos h2]
  rw[if_neg (by omega),if_neg h2,if_neg h2,if_pos (by omega),List.getElem?_drop];congr 1;omega
 have p1:i*s+gT.length<=base.length:=by rw[V1];omega
 have l1:=qo base gT (i*s) p1;have p2:(i+m)*s+(rows.drop (i*s)).length<=(Go.Pv.putCells base (i*s) gT).length:=by rw[l1,Uo];omega
 refine⟨by rw[qo _ _ _ p2,l1],λq hq=>?_⟩;rw[qn _ _ _ _ p2,qn _ _ _ _ p1,V1,Uo];by_cases h1:q<i*s
 ·rw[if_pos (by omega),if_pos h1,if_pos h1,Wx q h1]
 rw[if_neg h1];by_cases h2:q<(i+m)*s
 ·rw[if_pos h2,if_neg h1,if_pos (by omega),if_pos h2]
 rw[if_neg h2,if_pos (by omega),if_neg h1,if_neg h2,List.getElem?_drop];congr 1;omega
theorem ajx {s i m n:Nat} {L rows gT:List Value} (hi:i<=n) (hL:∀ q,q<(n+m)*s->L[q]?=if q<i*s then rows[q]? else if q<(i+m)*s then gT[q - i*s]? else rows[q - m*s]?) (k:Nat) (hk:k<n+m):
  (L.drop (k*s)).take s=if k<i then(rows.drop (k*s)).take s else if k<i+m then(gT.drop ((k - i)*s)).take s else(rows.drop ((k - m)*s)).take s:=by
 have h0:(k+1)*s<=(n+m)*s:=Nat.mul_le_mul_right s hk
 rw[Nat.add_mul,Nat.one_mul] at h0
 apply List.ext_getElem?
 intro q
 rw[Ad]
 by_cases hq:q<s
 rotate_left
 ·rw[if_neg hq]
  split
  ·rw[Ad,if_neg hq]
  ·split
   ·rw[Ad,if_neg hq]
   ·rw[Ad,if_neg hq]
 rw[if_pos hq,hL _ (by omega)]
 by_cases h1:k<i
 ·have h2:(k+1)*s<=i*s:=Nat.mul_le_mul_right s h1
  rw[Nat.add_mul,Nat.one_mul] at h2
  rw[if_pos (by omega),if_pos h1,Ad,if_pos hq]
 ·have h2:i*s<=k*s:=Nat.mul_le_mul_right s (by omega)
  rw[if_neg (by omega),if_neg h1]
  by_cases h3:k<i+m
  ·have h4:(k+1)*s<=(i+m)*s:=Nat.mul_le_mul_right s h3
   rw[Nat.add_mul,Nat.one_mul] at h4
   rw[if_pos (by omega),if_pos h3,Ad,if_pos hq,Nat.sub_mul]
   congr 1
   omega
  ·have h4:(i+m)*s<=k*s:=Nat.mul_le_mul_right s (by omega)
   have h5:m*s<=k*s:=Nat.mul_le_mul_right s (by omega)
   rw[if_neg (by omega),if_neg h3,Ad,if_pos hq,Nat.sub_mul]
   congr 1
   omega
variable {w w':World} {H:Nat->Value} {A:Nat->Prop}
theorem aaB {B:Nat->Prop} {t:Ty} {e:TypeId} {me:Md} {xs vs:List t.I} {i G C:Nat} {σ ir:Nat->Option Nat} {pM:Array Value} {rows gT:List Value} {τ τv:Nat->Nat} {P0 P2:Nat->Prop} (hi:i<=xs.length) (cP:aU w w' (Av σ B) (Av ir B)) (h0:∀ g',P0 g'->ir g'=some 0/\g'≠G/\ ¬P2 g') (h2:∀ g',P2 g'->ir g'=some 0/\g'≠G) (tQ:∀ g',P0 g'∨P2 g'->w'.heap[g']?=w.heap[g']?) (hG:ir G=some 0) (mf:w'.heap[G]?=some (.cells pM e (0,0))) (pL:pM.size=C*t.size) (hC:C<=maxLen) (hnC:xs.length+vs.length<=C) (hx:∀ k (hk:k<xs.length),M w (Av σ B) H t me xs[k] ((rows.drop (k*t.size)).take t.size) (λg'=>P0 g'/\τ g'=k) []) (hv:∀ k (hk:k<vs.length),M w (Av σ B) H t me vs[k] ((gT.drop (k*t.size)).take t.size) (λg'=>P2 g'/\τv g'=k) []) (hL:∀ q,q<(xs.length+vs.length)*t.size->pM.toList[q]?=if q<i*t.size then rows[q]? else if q<(i+vs.length)*t.size then gT[q - i*t.size]? else rows[q - vs.length*t.size]?): M w' (Av ir B) H (.sl t) (.o e none me) (List.take i xs++vs++List.drop i xs) [.slice (some ⟨G,0,none⟩) (xs.length+vs.length) C] (λg'=>ir g'=some 0) []:=by
 have hyl:(List.take i xs++vs++List.drop i xs).length=xs.length+vs.length:=by rw[List.length_append,List.length_append,List.length_take,List.length_drop];omega
 have hmi:min i xs.length=i:=by omega
 simp only[M];refine .inr (.inr ⟨e,none,me,some ⟨G,0,none⟩,C,rfl,by rw[hyl],by rw[hyl];exact hnC,λh hh=>(by cases hh),.inr ⟨G,pM,λg'=>open Classical in if P2 g' then i+τv g' else if τ g'<i then τ g' else τ g'+vs.length,rfl,hG,mf,pL,hC,λk hk=>?_⟩⟩);have mc:k<xs.length+vs.length:=by rw[←hyl];exact hk
 rw[ajx hi hL k mc];by_cases h1:k<i
 ·rw[if_pos h1];have hxk:(List.take i xs++vs++List.drop i xs)[k]'hk=xs[k]'(by omega):=(by rw[List.getElem_append_left (by rw[List.length_append,List.length_take];omega),List.getElem_append_left (by rw[List.length_take];omega),List.getElem_take]);rw[hxk];refine aG cP t (λg' bq _=>tQ g' (.inl bq.1)) (λg' bq _=>⟨(h0 g' bq.1).1,(h0 g' bq.1).2.1,?_⟩) (λp hp=>by simp at hp) (hx k (by omega));simp only[(h0 g' bq.1).2.2,if_false,bq.2,h1,if_true]
 rw[if_neg h1];by_cases h3:k<i+vs.length
 ·rw[if_pos h3];have hxk:(List.take i xs++vs++List.drop i xs)[k]'hk=vs[k - i]'(by omega):=(by rw[List.getElem_append_left (by rw[List.length_append,List.length_take];omega),List.getElem_append_right (by rw[List.length_take];omega)];congr 1;rw[List.length_take];omega);rw[hxk];refine aG cP t (λg' bq _=>tQ g' (.inr bq.1)) (λg' bq _=>⟨(h2 g' bq.1).1,(h2 g' bq.1).2,?_⟩) (λp hp=>by simp at hp) (hv (k - i) (by omega));simp only[bq.1,if_true,bq.2];omega
 rw[if_neg h3];have hxk:(List.take i xs++vs++List.drop i xs)[k]'hk=xs[k - vs.length]'(by omega):=by rw[List.getElem_append_right (by rw[List.length_append,List.length_take];omega),List.getElem_drop];congr 1;rw[List.length_append,List.length_take];omega
 rw[hxk];refine aG cP t (λg' bq _=>tQ g' (.inl bq.1)) (λg' bq _=>⟨(h0 g' bq.1).1,(h0 g' bq.1).2.1,?_⟩) (λp hp=>by simp at hp) (hx (k - vs.length) (by omega));have h9: ¬k - vs.length<i:=by omega
 simp only[(h0 g' bq.1).2.2,if_false,bq.2,h9];omega
end
section
variable {P:Program} {ρ:Ren} {w w':World} {H:Nat->Value} {A:Nat->Prop}
theorem ajy {Γ:Gl} {B:Nat->Prop} {t:Ty} {m m2:Md} {xs vs:List t.I} {i:Int} {σ:Nat->Option Nat} {bT:List Value} (gl:In Γ B H w σ [.tv ⟨.sl t,m,xs⟩,.tv ⟨.int .i64,.k,i⟩,.tv ⟨.sl t,m2,vs⟩] bT):
  ∃ v v2,bT=[v,.int .i64 i,v2]/\M w (Av σ B) H (.sl t) m xs [v] (λg=>σ g=some 0) []/\M w (Av σ B) H (.sl t) m2 vs [v2] (λg=>σ g=some 2) []:=by
 obtain⟨v,hv,cs,h1,h2⟩:=gl.ok 0 _ rfl
 obtain⟨v1,hv1,cs1,h3,h4⟩:=gl.ok 1 _ rfl
 obtain⟨v2,X5,cs2,h5,h6⟩:=gl.ok 2 _ rfl
 have qk:cs=[v]:=by simpa[ah,isAgg] using h1
 subst qk
 have qk:cs2=[v2]:=by simpa[ah,isAgg] using h5
 subst qk
 refine⟨v,v2,?_,h2,h6⟩
 simp only[M] at h4
 have e1:=e9 h3 h4.2
 subst e1
 have hl:=gl.len
 match bT,hl,hv,hv1,X5 with
 |[a,b,c],_,hv,hv1,X5=>simp at hv hv1 X5;rw[hv,hv1,X5]
theorem V3 {t:Ty} {e:TypeId} {me:Md} {xs:List t.I} {v:Value} {ow:Nat->Prop} (h:M w A H (.sl t) (.o e none me) xs [v] ow []): ∃ X c,v=.slice X xs.length c/\xs.length<=c/\((xs=[]/\c=0)∨∃ (g:Nat) (cur:Array Value) (τ:Nat->Nat),X=some ⟨g,0,none⟩/\ow g/\w.heap[g]?=some (.cells cur e (0,0))/\cur.size=c*t.size/\c<=maxLen/\ ∀ k (hk:k<xs.length),M w A H t me xs[k] ((cur.toList.drop (k*t.size)).take t.size) (λg'=>(ow g'/\g'≠g)/\τ g'=k) []):=by
 simp only[M] at h;rcases h with⟨hn,_⟩ |⟨hk,_⟩ |⟨T,agJ,me',X,c,e1,e2,hc,ht,h⟩
 ·simp at hn
 ·simp[Md.b5] at hk
 injection e1 with e1 L8 Di;subst e1 L8 Di;injection e2 with e2 _;subst e2;refine⟨X,c,rfl,hc,?_⟩;rcases h with h |⟨g,cur,τ,rfl,hg,hw,hs,hm,I1⟩
 ·exact .inl h
 refine .inr ⟨g,cur,τ,rfl,hg,hw,hs,hm,λk hk=>?_⟩;have:=I1 k hk;refine aG (w:=w) ⟨λ_ _ _=>rfl,λ_ _ h=>h⟩ t (λ_ _ _=>rfl) (λg' bq _=>⟨⟨bq.1,bq.2.1⟩,bq.2.2⟩) (λp hp=>by simp[sub] at hp) this
theorem frozen0 {g o:Nat} {cur:Array Value} {e:TypeId} (hw:w.heap[g]?=some (.cells cur e (0,0))):w.frozen? ⟨g,o,none⟩=false:=by simp[World.frozen?,hw]
theorem ajz {g o:Nat} {cur:Array Value} {e:TypeId} {v:Value} (hw:w.heap[g]?=some (.cells cur e (0,0))) (h:cur.toList[o]?=some v):w.cell? ⟨g,o,none⟩=some v:=by rw[Array.getElem?_toList] at h;simp[World.cell?,hw,h]
theorem Nr {Γ:Gl} {t:Ty} {zs:Array Value} {i0:TypeInfo} (L:V0 P ρ t.size zs i0) (me:Md) (atA:oa t me=true):Sound Γ P (ρ.f 22) (aV [.v (.sl t) (.o (ρ.t 9) none me),.v (.int .i64) .k,.v (.sl t) (.o (ρ.t 9) none me)]
  λx kf=>bif decide (0<=x.2.1)&&(decide (x.2.1<=(length x.1:Int))&&(Nat.blt 0 (length x.2.2.1)&&Nat.ble ((length x.1+length x.2.2.1)*t.size) 4398046511104)) then kf ⟨[⟨.sl t,.o (ρ.t 9) none me,List.take (toNat x.2.1) x.1++x.2.2.1++List.drop (toNat x.2.1) x.1⟩],[]⟩ else none):=by
 refine⟨?_,λal=>?_⟩
 rotate_left
 ·unfold aV
  split
  ·exact dk.bif _ (dk.pure _) dk.none
  ·exact dk.none
 intro args kf ret w σ bT H B hr gl
 unfold aV at hr
 split at hr
 case h_2=>cases hr
 rename_i x hx
 have:=ly _ args hx
 subst this
 rcases x with⟨xs,(ii:Int),vs,u⟩
 simp only[dF] at gl hr
 cases Ue:(decide (0<=ii)&&(decide (ii<=(length xs:Int))&&(Nat.blt 0 (length vs)&&Nat.ble ((length xs+length vs)*t.size) 4398046511104))) with
 |false=>rw[Ue] at hr;cases hr
 |true=>
 rw[Ue] at hr
 simp only[cond_true] at hr
 simp only[Bool.and_eq_true,decide_eq_true_eq] at Ue
 obtain⟨WG,hi1,YC,aar⟩:=Ue
 have YC:0<length vs:=by rwa [Nat.blt_eq] at YC
 have aar:(length xs+length vs)*t.size<=4398046511104:=by rwa [Nat.ble_eq] at aar
 obtain⟨i,rfl⟩:∃ i:Nat,ii=(i:Int):=⟨ii.toNat,by omega⟩
 have hi:i<=length xs:=by omega
 simp only[toNat_natCast] at hr
 obtain⟨v,v2,rfl,hx1,BK⟩:=ajy gl
 have hMx:=hx1
 obtain⟨X,c,rfl,hc,hX⟩:=V3 hx1
 obtain⟨X2,vc,rfl,hvc,hX2⟩:=V3 BK
 rcases hX2 with⟨h0,_⟩ |⟨vb,apx,τv,rfl,hvg,hvw,hvs,hvm,asC⟩
 ·rw[h0] at YC;simp at YC
 have hen:(callFunc (ρ.f 22) [Value.slice X (length xs) c,.int .i64 i,Value.slice (some ⟨vb,0,none⟩) (length vs) vc].toArray).run P w=.ok (.enter (ρ.f 22) [Value.slice X (length xs) c,.int .i64 i,Value.slice (some ⟨vb,0,none⟩) (length vs) vc].toArray) w:=L.FB.enters rfl _ w
 have hmx:maxLen=9223372036854775807:=rfl
 have Qk:0<t.size:=L.Qk
 have ag0:xs.length+vs.length<=4398046511104:=Nat.le_trans (Nat.le_mul_of_pos_right _ Qk) aar
 have Xz:c<=9223372036854775807/\(X=none->c=0):=by
  rcases hX with⟨_,h⟩ |⟨g,cur,τ,rfl,hg,hw,hs,hm,I1⟩
  ·exact⟨by omega,λ_=>h⟩
  ·exact⟨by omega,λhx=>by cases hx⟩
 have hms:vs.length*t.size<=vc*t.size:=Nat.mul_le_mul_right _ hvc
 have hvt:apx.toList.length=vc*t.size:=by simpa using hvs
 obtain⟨gT,hvr⟩:∃ gT,gT=apx.toList.take (vs.length*t.size):=⟨_,rfl⟩
 have V1:gT.length=vs.length*t.size:=by rw[hvr,List.length_take,hvt];omega
 have ajA:∀ k (hk:k<vs.length),M w (Av σ B) H t me vs[k] ((gT.drop (k*t.size)).take t.size) (λg'=>(σ g'=some 2/\g'≠vb)/\τv g'=k) []:=λk hk=>by
  rw[hvr,Dh hk]
  exact asC k hk
 have h1v:∀ u∈gT,u.oneCell'=true:=by
  rw[hvr]
  exact Dj vs.length λk hk u hu=>(lQ t (asC k hk)).2 u hu
 have ajB:∀ j u,gT[j]?=some u->w.cell? ⟨vb,0+j,none⟩=some u:=λj u hj=>by
  rw[hvr,List.getElem?_take] at hj
  split at hj
  ·rw[Nat.zero_add];exact ajz hvw hj
  ·cases hj
 have atO:Own σ vb:=⟨2,hvg⟩
 by_cases heq:i=xs.length
 ·-- at the end
  subst heq
  have Ha:Src P t.size (ρ.t 24) (.slice (some ⟨vb,0,none⟩) vs.length vc) vs.length gT w:=Src.ofSlice w L.t24 ⟨vb,0,none⟩ vs.length vc gT V1 (λj u hu=>by rw[Addr.add_lit];exact ajB j u hu) h1v
  obtain⟨v',w',fp,_,hM',tQ,asD,hle,hos,asE,Uq⟩:=Mh (P:=P) (Θ:=[]) rfl (T:=ρ.t 24) (T':=ρ.t 24) (ty:=ρ.t 24) L.t24 L.WG L.hz0 L.Wt L.hby (by show zs.size=_;exact L.hz) Qk hMx Ha ajA (λg' h1 h2=>by rw[h1] at h2;cases h2.1) (λg' h=>.inl ⟨0,h⟩) (λg' h=>(gl.lt g' 0 h).2) (λg' h=>(gl.lt g' 2 h.1).2) aar
  have dp:∀ ty,(Builtin.append_ #[(ρ.t 24),(ρ.t 24)] ty #[.slice X xs.length c,.slice (some ⟨vb,0,none⟩) vs.length vc]).run P w=.ok v' w':=λty=>by assumption
  refine .inl ⟨hen,(acY L X xs.length c vb 0 vs.length vc w w' v' YC hc Xz.1 Xz.2 dp).mono λen w2 he=>?_⟩
  obtain⟨rfl,rfl⟩:=he
  refine⟨_,hr,⟨hos,asE,Uq,hle,λg' du hn'=>tQ g' du λe=>hn' ⟨0,e⟩⟩,λg'=>open Classical in if fp g' then some 0 else none,[v'],rfl,rfl,λg' q bq=>?_,λq b hb=>?_,λd hd=>(by cases hd)⟩
  ·by_cases h:fp g'
   ·obtain⟨h1,h2⟩:=asD g' h
    refine⟨?_,h1⟩
    rcases h2 with h2 |h2 |h2
    ·exact .inr ⟨0,h2⟩
    ·exact .inr ⟨2,h2.1⟩
    ·exact .inl h2
   ·simp only[h,if_false] at bq;cases bq
  ·cases q with
   |succ q=>simp at hb
   |zero=>
    simp only[List.getElem?_cons_zero,Option.some.injEq] at hb
    subst hb
    refine⟨v',[v'],rfl,by simp[ah,isAgg],?_⟩
    have e3:List.take xs.length xs++vs++List.drop xs.length xs=xs++vs:=by rw[List.take_length,List.drop_length,List.append_nil]
    simp only[e3]
    refine aG (w:=w2) ⟨λ_ _ _=>rfl,λg' bq hx=>?_⟩ (.sl t) (λ_ _ _=>rfl) (λg' bq _=>by simp only[bq,if_true]) (λ_ h=>h) hM'
    rcases hx with⟨q,hq⟩ |hz
    rotate_left
    ·exact .inl (.inr hz)
    by_cases h:fp g'
    ·obtain⟨h1,h2⟩:=asD g' h
     rcases h2 with h2 |h2 |h2
     ·exact .inl (.inl ⟨0,h2⟩)
     ·exact .inl (.inl ⟨2,h2.1⟩)
     ·exact .inr h2
    ·simp only[h,if_false] at hq;cases hq
 have aly:i<xs.length:=by omega
 rcases hX with⟨h0,_⟩ |⟨g,cur,τ,rfl,hg,hw,hs,hm,I1⟩
 ·rw[h0] at aly;simp at aly
 have hgv:vb≠g:=λe=>by rw[e,hg] at hvg;cases hvg
 have hns:xs.length*t.size<=c*t.size:=Nat.mul_le_mul_right _ hc
 have hct:cur.toList.length=c*t.size:=by simpa using hs
 obtain⟨rows,hrw⟩:∃ rows,rows=cur.toList.take (xs.length*t.size):=⟨_,rfl⟩
 have rX:rows.length=xs.length*t.size:=by rw[hrw,List.length_take,hct];omega
 have nw:∀ k (hk:k<xs.length),M w (Av σ B) H t me xs[k] ((rows.drop (k*t.size)).take t.size) (λg'=>(σ g'=some 0/\g'≠g)/\τ g'=k) []:=λk hk=>by
  rw[hrw,Dh hk]
  exact I1 k hk
 have h1c:∀ u∈rows,u.oneCell'=true:=by
  rw[hrw]
  exact Dj xs.length λk hk u hu=>(lQ t (I1 k hk)).2 u hu
 have mm:∀ j u,rows[j]?=some u->w.cell? ⟨g,0+j,none⟩=some u:=λj u hj=>by
  rw[hrw,List.getElem?_take] at hj
  split at hj
  ·rw[Nat.zero_add];exact ajz hw hj
  ·cases hj
 have atF:g<w.heap.size:=bh hw
 have atG:vb<w.heap.size:=bh hvw
 have Vd:i*t.size<=xs.length*t.size:=Nat.mul_le_mul_right _ hi
 have Uo:(rows.drop (i*t.size)).length=xs.length*t.size - i*t.size:=by rw[List.length_drop,rX]
 have em:(i+vs.length)*t.size=i*t.size+vs.length*t.size:=Nat.add_mul _ _ _
 have en:(xs.length+vs.length)*t.size=xs.length*t.size+vs.length*t.size:=Nat.add_mul _ _ _
 have hdo:∀ u∈rows.drop (i*t.size),u.oneCell'=true:=λu hu=>h1c u (List.mem_of_mem_drop hu)
 by_cases FV:xs.length+vs.length<=c
 ·-- room
  have hrs:(xs.length+vs.length)*t.size<=c*t.size:=Nat.mul_le_mul_right _ FV
  have atH:w.drew.heap[g]?=some (.cells cur (ρ.t 9) (0,0)):=hw
  refine .inl ⟨hen,(Xy L g 0 xs.length c i vb 0 vs.length vc rows gT w aly YC FV Xz.1 hgv rX V1 mm (λj hj=>by
    rw[Nat.zero_add]
    have:j<cur.size:=by omega
    simp[World.cell?,hw,this]) (λj hj=>frozen0 hw) ajB h1c h1v (ρ.t 9) (ρ.t 9) apx.size cur.size (by simp[World.shape?,hvw]) (by simp[World.shape?,hw]) (λh=>by have h1:0<c*t.size:=Nat.mul_pos (by omega) Qk;omega) (frozen0 hvw) (frozen0 hvw)).mono λen w2 he=>?_⟩
  obtain⟨rfl,BF⟩:=he
  simp only[Nat.zero_add] at BF
  have YT:(i+vs.length)*t.size+(rows.drop (i*t.size)).length<=cur.size:=by rw[Uo];omega
  have hL1:=qo cur.toList (rows.drop (i*t.size)) ((i+vs.length)*t.size) (by simpa using YT)
  rw[hZ (w:=w.drew) (g:=g) (t:=ρ.t 9) (cur:=cur) hw YT hdo,
   hZ (g:=g) (t:=ρ.t 9) (cur:=(Go.Pv.putCells cur.toList ((i+vs.length)*t.size) (rows.drop (i*t.size))).toArray) (setRow_heap w.drew g cur _ (ρ.t 9) (0,0) hw) (by rw[List.size_toArray,hL1,V1,hct];omega) h1v,setRow_setRow] at BF
  subst BF
  simp only[List.toList_toArray]
  obtain⟨d1,d2⟩:=(V2 (s:=t.size) (i:=i) (m:=vs.length) (n:=xs.length) (base:=cur.toList) (rows:=rows) (gT:=gT) (by rw[hct];omega) rX V1 hi (λq hq=>by rw[hrw,List.getElem?_take,if_pos (by omega)]) trivial).1
  obtain⟨pM,aay⟩:∃ pM,pM=Go.Pv.putCells (Go.Pv.putCells cur.toList ((i+vs.length)*t.size) (rows.drop (i*t.size))) (i*t.size) gT:=⟨_,rfl⟩
  rw[←aay] at d1 d2 ⊢
  have mf:(w.drew.setRow g pM.toArray).heap[g]?=some (.cells pM.toArray (ρ.t 9) (0,0)):=setRow_heap w.drew g cur _ (ρ.t 9) (0,0) hw
  have yE:∀ g',g'≠g->(w.drew.setRow g pM.toArray).heap[g']?=w.heap[g']?:=λg' h=>setRow_other w.drew g g' _ h
  have acV:(w.drew.setRow g pM.toArray).heap.size=w.heap.size:=setRow_size w.drew g _
  let ir:Nat->Option Nat:=λg'=>if σ g'=some 0∨σ g'=some 2 then some 0 else none
  have hσ:∀ g' q,ir g'=some q↔(σ g'=some 0∨σ g'=some 2)/\q=0:=λg' q=>by
   simp only[ir]
   split
   ·rename_i h;exact⟨λe=>⟨h,by injection e with e;exact e.symm⟩,λe=>by rw[e.2]⟩
   ·rename_i h;exact⟨λe=>(by cases e),λe=>absurd e.1 h⟩
  have af0:∀ g' q,ir g'=some q->Own σ g':=λg' q h=>by
   rcases((hσ g' q).1 h).1 with h |h
   ·exact⟨0,h⟩
   ·exact⟨2,h⟩
  refine⟨_,hr,⟨rfl,rfl,rfl,by rw[acV];exact Nat.le_refl _,λg' _ hn'=>yE g' λe=>hn' ⟨0,by rw[e];exact hg⟩⟩,ir,[.slice (some ⟨g,0,none⟩) (xs.length+vs.length) c],rfl,rfl,λg' q bq=>⟨.inr (af0 g' q bq),by obtain⟨q',Gy⟩:=af0 g' q bq;rw[acV];exact(gl.lt g' q' Gy).2⟩,λq b hb=>?_,λd hd=>(by cases hd)⟩
  cases q with
  |succ q=>simp at hb
  |zero=>
   simp only[List.getElem?_cons_zero,Option.some.injEq] at hb
   subst hb
   refine⟨_,[.slice (some ⟨g,0,none⟩) (xs.length+vs.length) c],rfl,by simp[ah,isAgg],?_⟩
   have cP:aU w (w.drew.setRow g pM.toArray) (Av σ B) (Av ir B):=⟨λg' hn' _=>yE g' λe=>hn' (.inl ⟨0,by rw[e];exact hg⟩),λg' _ bq=>bq.imp (λ⟨q,hq⟩=>af0 g' q hq) id⟩
   refine aaB (P0:=λg'=>σ g'=some 0/\g'≠g) (P2:=λg'=>σ g'=some 2/\g'≠vb) hi cP (λg' h=>⟨(hσ g' 0).2 ⟨.inl h.1,rfl⟩,h.2,λe=>by rw[h.1] at e;cases e.1⟩)
    (λg' h=>⟨(hσ g' 0).2 ⟨.inr h.1,rfl⟩,λe=>by rw[e,hg] at h;cases h.1⟩) (λg' h=>yE g' ?_) ((hσ g 0).2 ⟨.inl hg,rfl⟩) mf (by rw[List.size_toArray,d1,hct]) hm FV nw ajA (by rw[List.toList_toArray];exact d2)
   rcases h with h |h
   ·exact h.2
   ·intro e;rw[e,hg] at h;cases h.1
 ·have ag3:(xs.length+vs.length)*i0.bytes<=140737488355328:=by
   have e1:(xs.length+vs.length)*i0.bytes<=(xs.length+vs.length)*(32*t.size):=Nat.mul_le_mul_left _ L.hby
   have e2:(xs.length+vs.length)*(32*t.size)=32*((xs.length+vs.length)*t.size):=by rw[Nat.mul_left_comm]
   omega
  refine .inl ⟨hen,(aaA L g 0 xs.length c i vb 0 vs.length vc rows gT w aly YC hc (by omega) Xz.1 ag3 ag0 rX V1 atF atG mm ajB h1c h1v).mono λen w2 he=>?_⟩
  obtain⟨rfl,BF⟩:=he
  obtain⟨G,hG⟩:∃ G,G=grownCap w (xs.length+vs.length) c (ρ.t 9):=⟨_,rfl⟩
  have hGn:xs.length+vs.length<=G:=by rw[hG];exact grownCap_ge w _ _ _
  have hGm:G<=maxLen:=by rw[hG];exact grownCap_le_maxLen w (xs.length+vs.length) c (ρ.t 9) (by omega)
  rw[←hG] at BF ⊢
  obtain⟨Jr,acZ⟩:∃ Jr:Array Value,Jr=(rows.take (i*t.size)).toArray++Builtin.zeroCells zs (xs.length+vs.length - i)++Builtin.zeroCells zs (G - (xs.length+vs.length)):=⟨_,rfl⟩
  rw[←acZ] at BF
  have hRs:Jr.size=G*t.size:=by
   have e1:i*t.size+(xs.length+vs.length - i)*t.size+(G - (xs.length+vs.length))*t.size=G*t.size:=by rw[←Nat.add_mul,←Nat.add_mul];congr 1;omega
   rw[acZ,Array.size_append,Array.size_append,List.size_toArray,List.length_take,rX]
   simp only[Builtin.zeroCells,Array.size_map,Array.size_range,L.hz]
   omega
  have asF:∀ q,q<i*t.size->Jr.toList[q]?=rows[q]?:=λq hq=>by
   rw[acZ,Array.toList_append,Array.toList_append,List.toList_toArray,List.append_assoc,List.getElem?_append_left (by rw[List.length_take,rX];omega),List.getElem?_take,if_pos hq]
  have hRt:Jr.toList.length=G*t.size:=by simpa using hRs
  have hGs:(xs.length+vs.length)*t.size<=G*t.size:=Nat.mul_le_mul_right _ hGn
  have hA0:((w.alloc (.cells Jr (ρ.t 9))).drew).heap[w.heap.size]?=some (.cells Jr (ρ.t 9) (0,0)):=heap_alloc_new w _
  have YT:i*t.size+gT.length<=Jr.size:=by rw[V1,hRs];omega
  have hL1:=qo Jr.toList gT (i*t.size) (by simpa using YT)
  rw[hZ (w:=(w.alloc (.cells Jr (ρ.t 9))).drew) (g:=w.heap.size) (t:=ρ.t 9) (cur:=Jr) hA0 YT h1v] at BF
  have hA1:(((w.alloc (.cells Jr (ρ.t 9))).drew.setRow w.heap.size (Go.Pv.putCells Jr.toList (i*t.size) gT).toArray).drew).heap[w.heap.size]?=some (.cells (Go.Pv.putCells Jr.toList (i*t.size) gT).toArray (ρ.t 9) (0,0)):=setRow_heap _ _ Jr _ (ρ.t 9) (0,0) hA0
  rw[hZ (g:=w.heap.size) (t:=ρ.t 9) (cur:=(Go.Pv.putCells Jr.toList (i*t.size) gT).toArray) hA1 (by rw[List.size_toArray,hL1,Uo,hRt];omega) hdo] at BF
  simp only[List.toList_toArray] at BF
  obtain⟨d1,d2⟩:=(V2 (s:=t.size) (i:=i) (m:=vs.length) (n:=xs.length) (base:=Jr.toList) (rows:=rows) (gT:=gT) (by rw[hRt];omega) rX V1 hi asF trivial).2
  obtain⟨pM,aay⟩:∃ pM,pM=Go.Pv.putCells (Go.Pv.putCells Jr.toList (i*t.size) gT) ((i+vs.length)*t.size) (rows.drop (i*t.size)):=⟨_,rfl⟩
  rw[←aay] at d1 d2 BF
  have mf:w2.heap[w.heap.size]?=some (.cells pM.toArray (ρ.t 9) (0,0)):=by rw[BF];exact setRow_heap _ _ _ _ (ρ.t 9) (0,0) hA1
  have yE:∀ g',g'<w.heap.size->w2.heap[g']?=w.heap[g']?:=λg' h=>by
   rw[BF,setRow_other _ _ _ _ (by omega)]
   show(World.setRow _ _ _).heap[g']?=_
   rw[setRow_other _ _ _ _ (by omega)]
   exact heap_alloc_old w _ h
  have acV:w2.heap.size=w.heap.size+1:=by
   rw[BF,setRow_size]
   show(World.setRow _ _ _).heap.size=_
   rw[setRow_size]
   show(w.alloc _).heap.size=_
   simp
  have Eu:w2.os=w.os/\w2.tape=w.tape/\w2.output=w.output:=by rw[BF];exact⟨rfl,rfl,rfl⟩
  let ir:Nat->Option Nat:=λg'=>if σ g'=some 0∨σ g'=some 2∨g'=w.heap.size then some 0 else none
  have hσ:∀ g' q,ir g'=some q↔(σ g'=some 0∨σ g'=some 2∨g'=w.heap.size)/\q=0:=λg' q=>by
   simp only[ir]
   split
   ·rename_i h;exact⟨λe=>⟨h,by injection e with e;exact e.symm⟩,λe=>by rw[e.2]⟩
   ·rename_i h;exact⟨λe=>(by cases e),λe=>absurd e.1 h⟩
  have af0:∀ g' q,ir g'=some q->Own σ g'∨g'=w.heap.size:=λg' q h=>by
   rcases((hσ g' q).1 h).1 with h |h |h
   ·exact .inl ⟨0,h⟩
   ·exact .inl ⟨2,h⟩
   ·exact .inr h
  refine⟨_,hr,⟨Eu.1,Eu.2.1,Eu.2.2,by rw[acV];omega,λg' h _=>yE g' h⟩,ir,[.slice (some ⟨w.heap.size,0,none⟩) (xs.length+vs.length) G],rfl,rfl,λg' q bq=>?_,λq b hb=>?_,λd hd=>(by cases hd)⟩
  ·rcases af0 g' q bq with h |h
   ·refine⟨.inr h,?_⟩
    obtain⟨q',Gy⟩:=h
    have:=(gl.lt g' q' Gy).2
    omega
   ·exact⟨.inl (by omega),by omega⟩
  cases q with
  |succ q=>simp at hb
  |zero=>
   simp only[List.getElem?_cons_zero,Option.some.injEq] at hb
   subst hb
   refine⟨_,[.slice (some ⟨w.heap.size,0,none⟩) (xs.length+vs.length) G],rfl,by simp[ah,isAgg],?_⟩
   have cP:aU w w2 (Av σ B) (Av ir B):=⟨λg' _ h=>yE g' h,λg' h bq=>bq.imp (λ⟨q,hq⟩=>(af0 g' q hq).resolve_right (by omega)) id⟩
   refine aaB (P0:=λg'=>σ g'=some 0/\g'≠g) (P2:=λg'=>σ g'=some 2/\g'≠vb) hi cP (λg' h=>⟨(hσ g' 0).2 ⟨.inl h.1,rfl⟩,λe=>?_,λe=>by rw[h.1] at e;cases e.1⟩)
    (λg' h=>⟨(hσ g' 0).2 ⟨.inr (.inl h.1),rfl⟩,λe=>?_⟩) (λg' h=>yE g' ?_) ((hσ w.heap.size 0).2 ⟨.inr (.inr rfl),rfl⟩) mf (by rw[List.size_toArray,d1,hRt]) hGm hGn nw ajA (by rw[List.toList_toArray];exact d2)
   ·have:=(gl.lt g' 0 h.1).2;omega
   ·have:=(gl.lt g' 2 h.1).2;omega
   ·rcases h with h |h
    ·exact(gl.lt g' 0 h.1).2
    ·exact(gl.lt g' 2 h.1).2
end
end Go.Pv
