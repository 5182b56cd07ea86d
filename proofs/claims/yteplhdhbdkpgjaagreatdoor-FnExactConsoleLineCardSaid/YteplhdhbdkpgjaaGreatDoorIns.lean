/- Functions of the library (Ins): what is told of them holds. -/
import Derived.Test.YteplhdhbdkpgjaaGreatDoorDel
import Derived.Shelf.Lays2
import Derived.Lib.JoinLaws
import Derived.Lib.AppendZeros
import Derived.Lib.AppendZerosOnto
import Derived.Lib.Overlaps
import Derived.Laws.Externs
import Derived.Laws.IdiomCopy
import Derived.Laws.NewBlocks
set_option linter.unusedSimpArgs false
set_option linter.unusedVariables false
namespace Go.Pv
open List Int IntKind
abbrev rG:= @Go.Proofs.Body2.n22_ntmps
abbrev qM:= @Go.Lib.wpList_append_run
abbrev lF:= @Go.World.cell?_setCells_out
open Go.Shelf Go.RowKit Go.Proofs
section
variable {P:Program} {ρ:Ren}
theorem Fo (w:World) (dT sT ty elem:TypeId) (b o aAA aEr:Nat) (a:Addr) (aAB aEs:Nat) (cs:List Value) (s:Nat) (hu:P.underlying dT=some (.slice elem)) (hs:(P.info? elem).map (·.size)=some s) (hn:cs.length=Nat.min aAB aAA*s) (Ox:∀ j v,cs[j]?=some v->w.cell? (a.add j)=some v) (hc:∀ j,j<cs.length->(w.cell? ⟨b,o+j,none⟩).isSome=true) (hf:∀ j,j<cs.length->w.frozen? ⟨b,o+j,none⟩=false) (h1:∀ v∈cs,v.oneCell'=true): (Builtin.copy_ #[dT,sT] ty #[.slice (some ⟨b,o,none⟩) aAA aEr,.slice (some a) aAB aEs]).run P w=.ok (goInt (Nat.min aAB aAA)) (w.setCells b o cs):=by
 have hl:=oc (P:=P) w a cs Ox;have gy:=qI (P:=P) b o cs 0 w (by simpa using hc) (by simpa using hf) h1;cases hq:P.info? elem with
 |none=>simp[hq] at hs
 |some i=>have hi:i.size=s:=(by simpa[hq] using hs);simp[Builtin.copy_,bc hu,Builtin.lenOf,Builtin.firstCells,sizeOf,typeInfo,hq,hi,←hn,hl,gy]
theorem akh (w:World) {o:Oper} {a:Act} {K:Act->World->Prop} {Q:Exit->Act->World->Prop} (d s:Operand) (t t':TypeId) (ho:o.op=.call { callee:=.builtin .copy,args:=#[d,s],argTypes:=#[t,t'] }) (v u:Value) (hd:a.eval d=v) (hs:a.eval s=u) {v':Value} {w':World} (hr:(Builtin.copy_ #[t,t'] o.type #[v,u]).run P w=.ok v' w') (h:K (a.put o.dst v') w'):o.wp P a w K Q:=by unfold Oper.wp execOp;simp only[ho,resolve,invoke,builtin,a6,dk,aX,List.map_toArray,bq,od,hd,hs,hr];exact h
theorem GR (w:World) {ops:Array Oper} {rest:List Oper} {o:Oper} {a:Act} {Q:Exit->Act->World->Prop} (hgd:o.guard=none) (d s:Operand) (t t':TypeId) (ho:o.op=.call { callee:=.builtin .copy,args:=#[d,s],argTypes:=#[t,t'] }) (v u:Value) (hd:a.eval d=v) (hs:a.eval s=u) {v':Value} {w':World} (hr:(Builtin.copy_ #[t,t'] o.type #[v,u]).run P w=.ok v' w') (h:wpList P ops Q rest (a.put o.dst v') w'):wpList P ops Q (o::rest) a w:=wpList_plain hgd λ_ hK=>akh w d s t t' ho v u hd hs hr (hK _ _ h)
theorem RR {ops:Array Oper} {o:Oper} {a:Act} {w:World} {K:Act->World->Prop} {Q:Exit->Act->World->Prop} {E:Prop} (hg:o.guard=none) (d x:Operand) (dT sT:TypeId) (fL:o.op=Op.call { callee:=Callee.builtin Builtin.copy,args:=#[d,x],argTypes:=#[dT,sT] }) (v u:Value) (hd:a.eval d=v) (hx:a.eval x=u) {v':Value} {w':World} (hr:(Builtin.copy_ #[dT,sT] o.type #[v,u]).run P w=.ok v' w') (hK:K (a.put o.dst v') w'): if Region.wanted o (yielded ops a.tmps)=true then Oper.wp P o a w K Q else E:=by
 have hw:Region.wanted o (yielded ops a.tmps)=true:=by simp[Region.wanted,hg]
 rw[aA hw];unfold Oper.wp;simp[execOp,fL,resolve,invoke,builtin,hd,hx,hr,Result.andThen];exact hK
structure afC (P:Program) (ρ:Ren) (s:Nat) (zs:Array Value) (i0:TypeInfo):Prop where
 mixed:P.follows .mixedOrders=true
 FB:Bears P (ρ.f 22) (Body2.n22 ρ)
 FO : ∃ fn : Func, P.funcs[ρ.f 29]? = some fn ∧ (fn.name == "runtime.NumGoroutine") = false ∧ fn.body.isNone = true ∧ Extern.findNext fn = none ∧ Extern.find fn = some (Extern.SlicesOverlaps.overlaps #[ρ.t 24, ρ.t 24] #[ρ.t 4])
 t0:P.underlying (ρ.t 0)=some (TypeDesc.tuple #[])
 a0:∀ w,(Go.isAgg (ρ.t 0)).run P w=.ok false w
 z0:∀ w,(Go.sizeOf (ρ.t 0)).run P w=.ok 1 w
 v0:∀ w,(zeroValue (ρ.t 0)).run P w=.ok (Value.tuple #[]) w
 t3:P.underlying (ρ.t 3)=some (TypeDesc.int IntKind.i64)
 a3:∀ w,(Go.isAgg (ρ.t 3)).run P w=.ok false w
 z3:∀ w,(Go.sizeOf (ρ.t 3)).run P w=.ok 1 w
 v3:∀ w,(zeroValue (ρ.t 3)).run P w=.ok (Value.int IntKind.i64 0) w
 t4:P.underlying (ρ.t 4)=some (TypeDesc.bool)
 a4:∀ w,(Go.isAgg (ρ.t 4)).run P w=.ok false w
 z4:∀ w,(Go.sizeOf (ρ.t 4)).run P w=.ok 1 w
 v4:∀ w,(zeroValue (ρ.t 4)).run P w=.ok (Value.bool false) w
 t24:P.underlying (ρ.t 24)=some (TypeDesc.slice (ρ.t 9))
 a24:∀ w,(Go.isAgg (ρ.t 24)).run P w=.ok false w
 z24:∀ w,(Go.sizeOf (ρ.t 24)).run P w=.ok 1 w
 v24:∀ w,(zeroValue (ρ.t 24)).run P w=.ok (Value.slice none 0 0) w
 z9:∀ w,(Go.sizeOf (ρ.t 9)).run P w=.ok s w
 hz:zs.size=s
 hzo:zs.toList.all (λu=>u.oneCell')=true
 hi0:P.info? (ρ.t 9)=some i0
 hz0:i0.zero=some (.agg zs)
 hz1:i0.size=s
 hby:i0.bytes<=32*s
 ZH:0<s
variable {s:Nat} {zs:Array Value} {i0:TypeInfo}
set_option maxHeartbeats 4000000 in
set_option maxRecDepth 100000 in
theorem ahk (L:afC P ρ s zs i0) (b off n c i vb Tl m vc:Nat) (cs vs:List Value) (w:World) (hi:i<n) (hm:0<m) (Oy:n+m<=c) (ahl:c<=9223372036854775807) (hvb:vb≠b) (C1:cs.length=n*s) (hvl:vs.length=m*s) (wS:∀ j v,cs[j]?=some v->w.cell? ⟨b,off+j,none⟩=some v) (hsp:∀ j,j<(n+m)*s->(w.cell? ⟨b,off+j,none⟩).isSome=true) (hfz:∀ j,j<(n+m)*s->w.frozen? ⟨b,off+j,none⟩=false) (hvs:∀ j v,vs[j]?=some v->w.cell? ⟨vb,Tl+j,none⟩=some v) (h1c:∀ v∈cs,v.oneCell'=true) (h1v:∀ v∈vs,v.oneCell'=true) (tA tB:TypeId) (kA kB:Nat) (hsa:w.shape? vb=some (tA,kA)) (hsb:w.shape? b=some (tB,kB)) (hkB:kB≠0) (hfa:w.frozen? ⟨vb,Tl,none⟩=false) (hfe:w.frozen? ⟨vb,kA,none⟩=false): Calls P (ρ.f 22) #[.slice (some ⟨b,off,none⟩) n c,.int .i64 i,.slice (some ⟨vb,Tl,none⟩) m vc] w λe w'=> e=.returned (.slice (some ⟨b,off,none⟩) (n+m) c)/\w'=(w.drew.setCells b (off+(i+m)*s) (cs.drop (i*s))).setCells b (off+i*s) vs:=by
 have t0:=L.t0;have a0:=L.a0;have z0:=L.z0;have v0:=L.v0;have t3:=L.t3;have a3:=L.a3;have z3:=L.z3;have v3:=L.v3;have t4:=L.t4;have a4:=L.a4;have z4:=L.z4;have v4:=L.v4;have z9:=L.z9;have t24:=L.t24;have a24:=L.a24;have z24:=L.z24;have v24:=L.v24;have u0:=bc L.t0;have u3:=bc L.t3;have u4:=bc L.t4;have u24:=bc L.t24;have hz1: ¬((m:Int)=0):=by omega
 have hz2: ¬((i:Int)=(n:Int)):=by omega
 have sW:(P.info? (ρ.t 9)).map (·.size)=some s:=by rw[L.hi0];simp[L.hz1]
 have hov:∀ lb cb,(callFunc (ρ.f 29) #[.slice (some ⟨vb,Tl,none⟩) m vc,.slice (some ⟨b,off+(i+m)*s,none⟩) lb cb]).run P w=.ok (.value (.bool false)) w:=λlb cb=>by
  obtain⟨fn,o1,o2,o3,o4,o5⟩:=L.FO;rw[run_callFunc_extern o1 o2 o3 o4 o5,
   Lib.run_overlaps_apart w (ρ.t 24) (ρ.t 4) (ρ.t 9) L.t24 s L.z9 ⟨vb,Tl,none⟩ ⟨b,off+(i+m)*s,none⟩ m vc lb cb hvb tA tB kA kB hsa hsb hkB hfa hfe]
  rfl
 have his:i*s<=n*s:=aD s (by omega);have aAC:(i+m)*s+(n - i)*s=(n+m)*s:=by rw[←bg];congr 1;omega
 have aDl:i*s+(n - i)*s=n*s:=by rw[←bg];congr 1;omega
 have atU:i*s+m*s<=(n+m)*s:=by rw[←bg];exact aD s (by omega)
 have hdl:(cs.drop (i*s)).length=(n - i)*s:=by rw[a8,C1,jz]
 have mixed:=L.mixed;have hw1:IntKind.i64.wrap ((i:Int)+(m:Int))=(i:Int)+(m:Int):=by rw[IntKind.wrap_i64];omega
 have hb1:(0:Int)<=(i:Int)+(m:Int):=by omega
 have mI:i<=n:=by omega
 have htn:((i:Int)+(m:Int)).toNat=i+m:=by omega
 have hb2: ¬(c=i+m):=by omega
 have hb3:(i:Int)<=(n:Int)+(m:Int):=by omega
 have hb4: ¬(c=i):=by omega
 have amL:Nat.min (n+m - i) (n+m - (i+m))=n - i:=by show min (n+m - i) (n+m - (i+m))=n - i;omega
 have amM:Nat.min m (n+m - i)=m:=by show min m (n+m - i)=m;omega
 have aDm:∀ ty dc sc,(Builtin.copy_ #[(ρ.t 24),(ρ.t 24)] ty #[.slice (some ⟨b,off+(i+m)*s,none⟩) (n+m - (i+m)) dc,.slice (some ⟨b,off+i*s,none⟩) (n+m - i) sc]).run P w.drew=.ok (goInt ((n - i:Nat):Int)) (w.drew.setCells b (off+(i+m)*s) (cs.drop (i*s))):=λty dc sc=>by
  have:=Fo (P:=P) w.drew (ρ.t 24) (ρ.t 24) ty (ρ.t 9) b (off+(i+m)*s) (n+m - (i+m)) dc ⟨b,off+i*s,none⟩ (n+m - i) sc (cs.drop (i*s)) s L.t24 sW (by rw[hdl,amL])
   (λj v hj=>by rw[jL,fv];exact wS (i*s+j) v (by rwa [cG] at hj))
   (λj hj=>by rw[fv];exact hsp _ (by rw[hdl] at hj;omega)) (λj hj=>by rw[fv];exact hfz _ (by rw[hdl] at hj;omega)) (λv hv=>h1c v (dV hv))
  rwa [amL] at this
 obtain⟨W1,hW1⟩:∃ W1,W1=w.drew.setCells b (off+(i+m)*s) (cs.drop (i*s)):=⟨_,rfl⟩;have Ju:∀ (vs:List Value) (o:Nat) (w:World) (h:∀ j,j<vs.length->(w.cell? ⟨b,o+j,none⟩).isSome=true) (k:Nat) (hk:(w.cell? ⟨b,k,none⟩).isSome=true),((w.setCells b o vs).cell? ⟨b,k,none⟩).isSome=true:=λvs o w h k hk=>by
  by_cases mI:o<=k/\k<o+vs.length
  ·have:=World.cell?_setCells_in b vs o w h (k - o) (by omega);rw[show o+(k - o)=k by omega] at this;rw[this];rfl
  rw[lF b vs o w ⟨b,k,none⟩ (λ_ _=>by show k<o∨o+vs.length<=k;omega)];exact hk
 have aDn:∀ k,k<(n+m)*s->(W1.cell? ⟨b,off+k,none⟩).isSome=true:=λk hk=>by rw[hW1];exact Ju _ _ _ (λj hj=>by rw[fv];exact hsp _ (by rw[hdl] at hj;omega)) _ (hsp k hk)
 have aEt:∀ (W:World),(∀ x,W.cell? x=W1.cell? x)->(∀ x,W.frozen? x=W1.frozen? x)->∀ ty dc,(Builtin.copy_ #[(ρ.t 24),(ρ.t 24)] ty #[.slice (some ⟨b,off+i*s,none⟩) (n+m - i) dc,.slice (some ⟨vb,Tl,none⟩) m vc]).run P W=.ok (goInt m) (W.setCells b (off+i*s) vs):=λW hWc hWf ty dc=>by
  have:=Fo (P:=P) W (ρ.t 24) (ρ.t 24) ty (ρ.t 9) b (off+i*s) (n+m - i) dc ⟨vb,Tl,none⟩ m vc vs s L.t24 sW (by rw[hvl,amM])
   (λj v hj=>by
    rw[jL,hWc,hW1,lF b _ _ _ _ (λh _=>absurd h hvb)]
    exact hvs j v hj)
   (λj hj=>by rw[hWc,fv];exact aDn _ (by rw[hvl] at hj;omega)) (λj hj=>by rw[hWf,hW1,World.frozen?_setCells,fv];exact hfz _ (by rw[hvl] at hj;omega)) h1v
  rwa [amM] at this
 rw[←hW1] at aDm;obtain⟨_,_,FG⟩:=L.FB;clear Ju aDn aAC aDl atU his hdl amL amM;go_enter FG,rG ρ;go_wp2_with (simp only[hov]);go_region_law_o (refine RR rfl _ _ (ρ.t 24) (ρ.t 24) rfl _ _ (by simp[Act.eval,Act.put]) (by simp[Act.eval,Act.put]) (aDm _ _ _) ?_);go_wp2_with (at_builtin;refine GR _ rfl _ _ (ρ.t 24) (ρ.t 24) rfl _ _ rfl rfl (aEt _ (λ_=>rfl) (λ_=>rfl) _ _) ?_);go_ret;first |exact⟨rfl,rfl⟩ |exact⟨rfl,by rw[hW1]⟩
set_option maxHeartbeats 4000000 in
set_option maxRecDepth 100000 in
theorem amN (L:afC P ρ s zs i0) (X:Option Addr) (n c vb Tl m vc:Nat) (w w':World) (v':Value) (hm:0<m) (hnc:n<=c) (ahl:c<=9223372036854775807) (hX:X=none->c=0) (iD:∀ ty,(Builtin.append_ #[(ρ.t 24),(ρ.t 24)] ty #[.slice X n c,.slice (some ⟨vb,Tl,none⟩) m vc]).run P w=.ok v' w'): Calls P (ρ.f 22) #[.slice X n c,.int .i64 n,.slice (some ⟨vb,Tl,none⟩) m vc] w λe w2=>e=.returned v'/\w2=w':=by
 have t0:=L.t0;have a0:=L.a0;have z0:=L.z0;have v0:=L.v0;have t3:=L.t3;have a3:=L.a3;have z3:=L.z3;have v3:=L.v3;have t4:=L.t4;have a4:=L.a4;have z4:=L.z4;have v4:=L.v4;have z9:=L.z9;have t24:=L.t24;have a24:=L.a24;have z24:=L.z24;have v24:=L.v24;have u0:=bc L.t0;have u3:=bc L.t3;have u4:=bc L.t4;have u24:=bc L.t24;have mixed:=L.mixed;have hz1: ¬((m:Int)=0):=by omega
 obtain⟨_,_,FG⟩:=L.FB;cases X with
 |none=>obtain rfl:=hX rfl;obtain rfl:n=0:=(by omega);go_enter FG,rG ρ;go_wp2_with (at_builtin;refine qM _ rfl _ _ _ _ rfl _ _ rfl rfl _ _ (iD _) ?_);all_goals (go_ret;exact⟨rfl,rfl⟩)
 |some A=>go_enter FG,rG ρ;go_wp2_with (at_builtin;refine qM _ rfl _ _ _ _ rfl _ _ rfl rfl _ _ (iD _) ?_);all_goals (go_ret;exact⟨rfl,rfl⟩)
set_option maxHeartbeats 4000000 in
set_option maxRecDepth 100000 in
theorem aki (L:afC P ρ s zs i0) (b off n c i vb Tl m vc:Nat) (cs vs:List Value) (w:World) (hi:i<n) (hm:0<m) (hnc:n<=c) (Oy:c<n+m) (ahl:c<=9223372036854775807) (apM:(n+m)*i0.bytes<=140737488355328) (hbl:n+m<=4398046511104) (C1:cs.length=n*s) (hvl:vs.length=m*s) (hbw:b<w.heap.size) (hvw:vb<w.heap.size) (wS:∀ j v,cs[j]?=some v->w.cell? ⟨b,off+j,none⟩=some v) (hvs:∀ j v,vs[j]?=some v->w.cell? ⟨vb,Tl+j,none⟩=some v) (h1c:∀ v∈cs,v.oneCell'=true) (h1v:∀ v∈vs,v.oneCell'=true): Calls P (ρ.f 22) #[.slice (some ⟨b,off,none⟩) n c,.int .i64 i,.slice (some ⟨vb,Tl,none⟩) m vc] w λe w'=> e=.returned (.slice (some ⟨w.heap.size,0,none⟩) (n+m) (grownCap w (n+m) c (ρ.t 9)))/\ w'=(((w.alloc (.cells ((cs.take (i*s)).toArray++Builtin.zeroCells zs (n+m - i)++Builtin.zeroCells zs (grownCap w (n+m) c (ρ.t 9) - (n+m))) (ρ.t 9))).drew.setCells w.heap.size (i*s) vs).drew).setCells w.heap.size ((i+m)*s) (cs.drop (i*s)):=by
 have t0:=L.t0;have a0:=L.a0;have z0:=L.z0;have v0:=L.v0;have t3:=L.t3;have a3:=L.a3;have z3:=L.z3;have v3:=L.v3;have t4:=L.t4;have a4:=L.a4;have z4:=L.z4;have v4:=L.v4;have z9:=L.z9;have t24:=L.t24;have a24:=L.a24;have z24:=L.z24;have v24:=L.v24;have u0:=bc L.t0;have u3:=bc L.t3;have u4:=bc L.t4;have u24:=bc L.t24;have mixed:=L.mixed;have hi0:=L.hi0;have hz0:=L.hz0;have hzs:=L.hz1;have hz1: ¬((m:Int)=0):=by omega
 have hz2: ¬((i:Int)=(n:Int)):=by omega
 have hz3:(c:Int)<(n:Int)+(m:Int):=by omega
 have sW:(P.info? (ρ.t 9)).map (·.size)=some s:=by rw[hi0];simp[hzs]
 have his:i*s<=n*s:=aD s (by omega);have aAC:(i+m)*s+(n - i)*s=(n+m)*s:=by rw[←bg];congr 1;omega
 have atU:i*s+m*s<=(n+m)*s:=by rw[←bg];exact aD s (by omega)
 have hkk:(n:Int)+(m:Int) - (i:Int)=((n+m - i:Nat):Int):=by omega
 have hik:i+(n+m - i)=n+m:=by omega
 have hold:(Builtin.firstCells i0.size i (.slice (some ⟨b,off,none⟩) i c)).run P w.drew=.ok (cs.take (i*s)).toArray w.drew:=by
  rw[hzs];exact rY w.drew s i ⟨b,off,none⟩ i c (cs.take (i*s)) (by rw[aH];omega) (λj v hj=>by
   rw[jL]
   rw[bQ] at hj
   split at hj
   ·exact wS j v hj
   ·cases hj)
 have hrz:∀ ty,(Builtin.append_ #[(ρ.t 24),(ρ.t 3)] ty #[.slice (some ⟨b,off,none⟩) i c,.int .i64 ((n:Int)+(m:Int) - (i:Int))]).run P w=
   .ok (.slice (some ⟨w.heap.size,0,none⟩) (n+m) (grownCap w (n+m) c (ρ.t 9))) (w.drew.alloc (.cells ((cs.take (i*s)).toArray++Builtin.zeroCells zs (n+m - i)++Builtin.zeroCells zs (grownCap w (n+m) c (ρ.t 9) - (n+m))) (ρ.t 9))):=λty=>by
  have hkb:(n+m - i)*i0.bytes<=(n+m)*i0.bytes:=aD _ (by omega)
  have h:=Lib.run_append_grow_zeros w (ρ.t 24) (ρ.t 3) ty (ρ.t 9) i0 _ .i64 .i64 L.t24 L.t3 hi0 hz0 (some ⟨b,off,none⟩) i c (cs.take (i*s)) hold (n+m - i) (by omega) (by rw[hzs];exact L.ZH) (by omega) (by omega) (by omega) (by rw[hik];exact growslice_fits Oy apM)
  rw[hik] at h
  rw[hkk]
  exact h
 obtain⟨G,hG⟩:∃ G,G=grownCap w (n+m) c (ρ.t 9):=⟨_,rfl⟩;obtain⟨Q5,amO⟩:∃ Q5:Array Value,Q5=(cs.take (i*s)).toArray++Builtin.zeroCells zs (n+m - i)++Builtin.zeroCells zs (G - (n+m)):=⟨_,rfl⟩;rw[←hG] at hrz ⊢;rw[←amO] at hrz ⊢;have hRl:(n+m)*s<=Q5.size:=by have e1:(n+m)*s=i*s+(n+m - i)*s:=(by rw[←bg,hik]);rw[amO];simp only[jq,cg,aH,C1,Builtin.zeroCells,Array.size_map,Array.size_range,L.hz];omega
 obtain⟨W1,hW1⟩:∃ W1,W1=w.drew.alloc (.cells Q5 (ρ.t 9)):=⟨_,rfl⟩;rw[←hW1] at hrz;have hN:∀ j,j<(n+m)*s->(W1.cell? ⟨w.heap.size,j,none⟩).isSome=true:=λj hj=>by rw[hW1,World.cell?_alloc_at (w:=w.drew) Q5 _ w.heap.size j rfl,dw (by omega)];rfl
 have hNf:∀ j,W1.frozen? ⟨w.heap.size,j,none⟩=false:=λj=>by rw[hW1];exact World.frozen?_alloc_at (w:=w.drew) Q5 _ w.heap.size j rfl
 have hOb:∀ j v,w.cell? ⟨b,j,none⟩=some v->W1.cell? ⟨b,j,none⟩=some v:=λj v h=>by rw[hW1,World.cell?_alloc_past (w:=w.drew) _ b j hbw];exact h
 have hOv:∀ j v,w.cell? ⟨vb,j,none⟩=some v->W1.cell? ⟨vb,j,none⟩=some v:=λj v h=>by rw[hW1,World.cell?_alloc_past (w:=w.drew) _ vb j hvw];exact h
 have amL:Nat.min m (n+m - i)=m:=by show min m (n+m - i)=m;omega
 have amM:Nat.min (n - i) (n+m - (i+m))=n - i:=by show min (n - i) (n+m - (i+m))=n - i;omega
 have aEu:∀ (W:World),(∀ x,W.cell? x=W1.cell? x)->(∀ x,W.frozen? x=W1.frozen? x)->∀ ty dc,(Builtin.copy_ #[(ρ.t 24),(ρ.t 24)] ty #[.slice (some ⟨w.heap.size,i*s,none⟩) (n+m - i) dc,.slice (some ⟨vb,Tl,none⟩) m vc]).run P W=.ok (goInt m) (W.setCells w.heap.size (i*s) vs):=λW hWc hWf ty dc=>by
  have:=Fo (P:=P) W (ρ.t 24) (ρ.t 24) ty (ρ.t 9) w.heap.size (i*s) (n+m - i) dc ⟨vb,Tl,none⟩ m vc vs s L.t24 sW (by rw[hvl,amL])
   (λj v hj=>by rw[jL,hWc];exact hOv _ v (hvs j v hj))
   (λj hj=>by rw[hWc];exact hN _ (by rw[hvl] at hj;omega)) (λj hj=>by rw[hWf];exact hNf _) h1v
  rwa [amL] at this
 have hGn:n+m<=G:=by rw[hG];exact vH w _ _ _
 have aEV:G<=9223372036854775807:=by have:=og w (n+m) c (ρ.t 9) (by unfold Go.maxLen;omega);rw[←hG] at this;unfold Go.maxLen at this;omega
 have hGi: ¬(G=i):=by omega
 have aEW: ¬(G=i+m):=by omega
 have hci: ¬(c=i):=by omega
 have hbN:b≠w.heap.size:=by omega
 have hdl:(cs.drop (i*s)).length=(n - i)*s:=by rw[a8,C1,jz]
 have Ju:∀ (g:Nat) (vs:List Value) (o:Nat) (w:World) (h:∀ j,j<vs.length->(w.cell? ⟨g,o+j,none⟩).isSome=true) (k:Nat) (hk:(w.cell? ⟨g,k,none⟩).isSome=true),((w.setCells g o vs).cell? ⟨g,k,none⟩).isSome=true:=λg vs o w h k hk=>by
  by_cases mI:o<=k/\k<o+vs.length
  ·have:=World.cell?_setCells_in g vs o w h (k - o) (by omega);rw[show o+(k - o)=k by omega] at this;rw[this];rfl
  rw[lF g vs o w ⟨g,k,none⟩ (λ_ _=>by show k<o∨o+vs.length<=k;omega)];exact hk
 have aDo:∀ (W:World),(∀ x,W.cell? x=(W1.setCells w.heap.size (i*s) vs).cell? x)->(∀ x,W.frozen? x=(W1.setCells w.heap.size (i*s) vs).frozen? x)->∀ ty dc sc,(Builtin.copy_ #[(ρ.t 24),(ρ.t 24)] ty #[.slice (some ⟨w.heap.size,(i+m)*s,none⟩) (n+m - (i+m)) dc,.slice (some ⟨b,off+i*s,none⟩) (n - i) sc]).run P W=.ok (goInt ((n - i:Nat):Int)) (W.setCells w.heap.size ((i+m)*s) (cs.drop (i*s))):=λW hWc hWf ty dc sc=>by
  have:=Fo (P:=P) W (ρ.t 24) (ρ.t 24) ty (ρ.t 9) w.heap.size ((i+m)*s) (n+m - (i+m)) dc ⟨b,off+i*s,none⟩ (n - i) sc (cs.drop (i*s)) s L.t24 sW (by rw[hdl,amM])
   (λj v hj=>by
    rw[jL,hWc,lF _ _ _ _ _ (λh _=>absurd h hbN),fv]
    exact hOb _ v (wS (i*s+j) v (by rwa [cG] at hj)))
   (λj hj=>by rw[hWc];exact Ju _ _ _ _ (λt ht=>hN _ (by rw[hvl] at ht;omega)) _ (hN _ (by rw[hdl] at hj;omega)))
   (λj hj=>by rw[hWf,World.frozen?_setCells];exact hNf _) (λv hv=>h1c v (dV hv))
  rwa [amM] at this
 subst hW1;have hE1:∀ x,((w.alloc (.cells Q5 (ρ.t 9))).drew).cell? x=(w.drew.alloc (.cells Q5 (ρ.t 9))).cell? x:=λx=>rfl;have hE2:∀ x,((w.alloc (.cells Q5 (ρ.t 9))).drew).frozen? x=(w.drew.alloc (.cells Q5 (ρ.t 9))).frozen? x:=λx=>rfl;have hF1:∀ x,(((w.alloc (.cells Q5 (ρ.t 9))).drew.setCells w.heap.size (i*s) vs).drew).cell? x=((w.drew.alloc (.cells Q5 (ρ.t 9))).setCells w.heap.size (i*s) vs).cell? x:=λx=>rfl;have hF2:∀ x,(((w.alloc (.cells Q5 (ρ.t 9))).drew.setCells w.heap.size (i*s) vs).drew).frozen? x=((w.drew.alloc (.cells Q5 (ρ.t 9))).setCells w.heap.size (i*s) vs).frozen? x:=λx=>rfl;have hw1:IntKind.i64.wrap ((i:Int)+(m:Int))=(i:Int)+(m:Int):=by rw[IntKind.wrap_i64];omega
 have hb1:(0:Int)<=(i:Int)+(m:Int):=by omega
 have mI:i<=n:=by omega
 have htn:((i:Int)+(m:Int)).toNat=i+m:=by omega
 have hb3:(i:Int)<=(n:Int):=by omega
 obtain⟨_,_,FG⟩:=L.FB;clear hkk hik hold amO hG hRl his aAC atU amL amM Ju hdl;go_enter FG,rG ρ;go_wp2_with (first
  |(at_builtin;refine qM _ rfl _ _ _ _ rfl _ _ rfl rfl _ _ (hrz _) ?_)
  |(at_builtin;refine GR _ rfl _ _ (ρ.t 24) (ρ.t 24) rfl _ _ rfl rfl (aEu _ hE1 hE2 _ _) ?_)
  |(at_builtin;refine GR _ rfl _ _ (ρ.t 24) (ρ.t 24) rfl _ _ rfl rfl (aDo _ (λ_=>rfl) (λ_=>rfl) _ _ _) ?_))
 go_region_law_o (refine RR rfl _ _ (ρ.t 24) (ρ.t 24) rfl (.slice (some ⟨w.heap.size,(i+m)*s,none⟩) (n+m - (i+m)) (G - (i+m))) (.slice (some ⟨b,off+i*s,none⟩) (n - i) (c - i)) (by simp[Act.eval,Act.put]) (by simp[Act.eval,Act.put]) (aDo _ hF1 hF2 (ρ.t 3) (G - (i+m)) (c - i)) ?_);go_wp2;go_ret;exact⟨rfl,rfl⟩
end
section
variable {P:Program} {ρ:Ren}
theorem afD {s i m n:Nat} {base rows mA:List Value} (hbl:(n+m)*s<=base.length) (hrl:rows.length=n*s) (hvl:mA.length=m*s) (hi:i<=n) (agc:∀ q,q<i*s->base[q]?=rows[q]?) (aEH:True): ((Go.Pv.putCells (Go.Pv.putCells base ((i+m)*s) (rows.drop (i*s))) (i*s) mA).length=base.length/\ ∀ q,q<(n+m)*s->(Go.Pv.putCells (Go.Pv.putCells base ((i+m)*s) (rows.drop (i*s))) (i*s) mA)[q]?=if q<i*s then rows[q]? else if q<(i+m)*s then mA[q - i*s]? else rows[q - m*s]?)/\ ((Go.Pv.putCells (Go.Pv.putCells base (i*s) mA) ((i+m)*s) (rows.drop (i*s))).length=base.length/\ ∀ q,q<(n+m)*s->(Go.Pv.putCells (Go.Pv.putCells base (i*s) mA) ((i+m)*s) (rows.drop (i*s)))[q]?=if q<i*s then rows[q]? else if q<(i+m)*s then mA[q - i*s]? else rows[q - m*s]?):=by
 have e1:(i+m)*s=i*s+m*s:=bg _ _ _;have e2:(n+m)*s=n*s+m*s:=bg _ _ _;have e3:i*s<=n*s:=aD s hi;have hdl:(rows.drop (i*s)).length=n*s - i*s:=by rw[a8,hrl]
 refine⟨?_,?_⟩
 ·have p1:(i+m)*s+(rows.drop (i*s)).length<=base.length:=(by rw[hdl];omega);have l1:=yK base (rows.drop (i*s)) ((i+m)*s) p1;have p2:i*s+mA.length<=(Go.Pv.putCells base ((i+m)*s) (rows.drop (i*s))).length:=(by rw[l1,hvl];omega);refine⟨by rw[yK _ _ _ p2,l1],λq hq=>?_⟩;rw[yJ _ _ _ _ p2,yJ _ _ _ _ p1,hvl,hdl];by_cases h1:q<i*s
  ·rw[aA h1,aA (by omega),aA h1,agc q h1]
  rw[aq h1,aq h1];by_cases h2:q<(i+m)*s
  ·rw[aA (by omega),aA h2]
  rw[aq (by omega),aq h2,aq h2,aA (by omega),cG];congr 1;omega
 have p1:i*s+mA.length<=base.length:=by rw[hvl];omega
 have l1:=yK base mA (i*s) p1;have p2:(i+m)*s+(rows.drop (i*s)).length<=(Go.Pv.putCells base (i*s) mA).length:=by rw[l1,hdl];omega
 refine⟨by rw[yK _ _ _ p2,l1],λq hq=>?_⟩;rw[yJ _ _ _ _ p2,yJ _ _ _ _ p1,hvl,hdl];by_cases h1:q<i*s
 ·rw[aA (by omega),aA h1,aA h1,agc q h1]
 rw[aq h1];by_cases h2:q<(i+m)*s
 ·rw[aA h2,aq h1,aA (by omega),aA h2]
 rw[aq h2,aA (by omega),aq h1,aq h2,cG];congr 1;omega
theorem atV {s i m n:Nat} {L rows mA:List Value} (hi:i<=n) (hL:∀ q,q<(n+m)*s->L[q]?=if q<i*s then rows[q]? else if q<(i+m)*s then mA[q - i*s]? else rows[q - m*s]?) (k:Nat) (hk:k<n+m):
  (L.drop (k*s)).take s=if k<i then(rows.drop (k*s)).take s else if k<i+m then(mA.drop ((k - i)*s)).take s else(rows.drop ((k - m)*s)).take s:=by
 have h0:(k+1)*s<=(n+m)*s:=aD s hk
 rw[bg,cM] at h0
 apply de
 intro q
 rw[Ie]
 by_cases hq:q<s
 rotate_left
 ·rw[aq hq]
  split
  ·rw[Ie,aq hq]
  ·split
   ·rw[Ie,aq hq]
   ·rw[Ie,aq hq]
 rw[aA hq,hL _ (by omega)]
 by_cases h1:k<i
 ·have h2:(k+1)*s<=i*s:=aD s h1
  rw[bg,cM] at h2
  rw[aA (by omega),aA h1,Ie,aA hq]
 ·have h2:i*s<=k*s:=aD s (by omega)
  rw[aq (by omega),aq h1]
  by_cases h3:k<i+m
  ·have h4:(k+1)*s<=(i+m)*s:=aD s h3
   rw[bg,cM] at h4
   rw[aA (by omega),aA h3,Ie,aA hq,jz]
   congr 1
   omega
  ·have h4:(i+m)*s<=k*s:=aD s (by omega)
   have h5:m*s<=k*s:=aD s (by omega)
   rw[aq (by omega),aq h3,Ie,aA hq,jz]
   congr 1
   omega
variable {w w':World} {H:Nat->Value} {A:Nat->Prop}
theorem akj {B:Nat->Prop} {t:Ty} {e:TypeId} {me:Md} {xs vs:List t.I} {i G C:Nat} {σ nK:Nat->Option Nat} {vW:Array Value} {rows mA:List Value} {τ τv:Nat->Nat} {P0 P2:Nat->Prop} (hi:i<=xs.length) (gy:cR w w' (Av σ B) (Av nK B)) (h0:∀ g',P0 g'->nK g'=some 0/\g'≠G/\ ¬P2 g') (h2:∀ g',P2 g'->nK g'=some 0/\g'≠G) (xm:∀ g',P0 g'∨P2 g'->w'.heap[g']?=w.heap[g']?) (hG:nK G=some 0) (su:w'.heap[G]?=some (.cells vW e (0,0))) (sW:vW.size=C*t.size) (hC:C<=maxLen) (hnC:xs.length+vs.length<=C) (hx:∀ k (hk:k<xs.length),M w (Av σ B) H t me xs[k] ((rows.drop (k*t.size)).take t.size) (λg'=>P0 g'/\τ g'=k) []) (hv:∀ k (hk:k<vs.length),M w (Av σ B) H t me vs[k] ((mA.drop (k*t.size)).take t.size) (λg'=>P2 g'/\τv g'=k) []) (hL:∀ q,q<(xs.length+vs.length)*t.size->vW.toList[q]?=if q<i*t.size then rows[q]? else if q<(i+vs.length)*t.size then mA[q - i*t.size]? else rows[q - vs.length*t.size]?): M w' (Av nK B) H (.sl t) (.o e none me) (List.take i xs++vs++List.drop i xs) [.slice (some ⟨G,0,none⟩) (xs.length+vs.length) C] (λg'=>nK g'=some 0) []:=by
 have hyl:(List.take i xs++vs++List.drop i xs).length=xs.length+vs.length:=by rw[au,au,aH,a8];omega
 have hmi:min i xs.length=i:=by omega
 simp only[M];refine .inr (.inr ⟨e,none,me,some ⟨G,0,none⟩,C,rfl,by rw[hyl],by rw[hyl];exact hnC,λh hh=>(by cases hh),.inr ⟨G,vW,λg'=>open Classical in if P2 g' then i+τv g' else if τ g'<i then τ g' else τ g'+vs.length,rfl,hG,su,sW,hC,λk hk=>?_⟩⟩);have uI:k<xs.length+vs.length:=by rw[←hyl];exact hk
 rw[atV hi hL k uI];by_cases h1:k<i
 ·rw[aA h1];have hxk:(List.take i xs++vs++List.drop i xs)[k]'hk=xs[k]'(by omega):=(by rw[cN (by rw[au,aH];omega),cN (by rw[aH];omega),gJ]);rw[hxk];refine ca gy t (λg' dU _=>xm g' (.inl dU.1)) (λg' dU _=>⟨(h0 g' dU.1).1,(h0 g' dU.1).2.1,?_⟩) (λp hp=>by simp at hp) (hx k (by omega));simp only[(h0 g' dU.1).2.2,c9,dU.2,h1,dF]
 rw[aq h1];by_cases h3:k<i+vs.length
 ·rw[aA h3];have hxk:(List.take i xs++vs++List.drop i xs)[k]'hk=vs[k - i]'(by omega):=(by rw[cN (by rw[au,aH];omega),dN (by rw[aH];omega)];congr 1;rw[aH];omega);rw[hxk];refine ca gy t (λg' dU _=>xm g' (.inr dU.1)) (λg' dU _=>⟨(h2 g' dU.1).1,(h2 g' dU.1).2,?_⟩) (λp hp=>by simp at hp) (hv (k - i) (by omega));simp only[dU.1,dF,dU.2];omega
 rw[aq h3];have hxk:(List.take i xs++vs++List.drop i xs)[k]'hk=xs[k - vs.length]'(by omega):=by rw[dN (by rw[au,aH];omega),lT];congr 1;rw[au,aH];omega
 rw[hxk];refine ca gy t (λg' dU _=>xm g' (.inl dU.1)) (λg' dU _=>⟨(h0 g' dU.1).1,(h0 g' dU.1).2.1,?_⟩) (λp hp=>by simp at hp) (hx (k - vs.length) (by omega));have h9: ¬k - vs.length<i:=by omega
 simp only[(h0 g' dU.1).2.2,c9,dU.2,h9];omega
end
section
variable {P:Program} {ρ:Ren} {w w':World} {H:Nat->Value} {A:Nat->Prop}
theorem atW {Γ:Gl} {B:Nat->Prop} {t:Ty} {m m2:Md} {xs vs:List t.I} {i:Int} {σ:Nat->Option Nat} {fC:List Value} (mI:In Γ B H w σ [.tv ⟨.sl t,m,xs⟩,.tv ⟨.int .i64,.k,i⟩,.tv ⟨.sl t,m2,vs⟩] fC):
  ∃ v v2,fC=[v,.int .i64 i,v2]/\M w (Av σ B) H (.sl t) m xs [v] (λg=>σ g=some 0) []/\M w (Av σ B) H (.sl t) m2 vs [v2] (λg=>σ g=some 2) []:=by
 obtain⟨v,hv,cs,h1,h2⟩:=mI.ok 0 _ rfl
 obtain⟨v1,hv1,cs1,h3,h4⟩:=mI.ok 1 _ rfl
 obtain⟨v2,hv2,cs2,h5,h6⟩:=mI.ok 2 _ rfl
 have wS:cs=[v]:=by simpa[a7,isAgg] using h1
 subst wS
 have wS:cs2=[v2]:=by simpa[a7,isAgg] using h5
 subst wS
 refine⟨v,v2,?_,h2,h6⟩
 simp only[M] at h4
 have e1:=kZ h3 h4.2
 subst e1
 have hl:=mI.len
 match fC,hl,hv,hv1,hv2 with
 |[a,b,c],_,hv,hv1,hv2=>simp at hv hv1 hv2;rw[hv,hv1,hv2]
theorem afE {t:Ty} {e:TypeId} {me:Md} {xs:List t.I} {v:Value} {ow:Nat->Prop} (h:M w A H (.sl t) (.o e none me) xs [v] ow []): ∃ X c,v=.slice X xs.length c/\xs.length<=c/\((xs=[]/\c=0)∨∃ (g:Nat) (cur:Array Value) (τ:Nat->Nat),X=some ⟨g,0,none⟩/\ow g/\w.heap[g]?=some (.cells cur e (0,0))/\cur.size=c*t.size/\c<=maxLen/\ ∀ k (hk:k<xs.length),M w A H t me xs[k] ((cur.toList.drop (k*t.size)).take t.size) (λg'=>(ow g'/\g'≠g)/\τ g'=k) []):=by
 simp only[M] at h;rcases h with⟨hn,_⟩ |⟨hk,_⟩ |⟨T,aqy,me',X,c,e1,e2,hc,ht,h⟩
 ·simp at hn
 ·simp[Md.fu] at hk
 injection e1 with e1 Uf LB;subst e1 Uf LB;injection e2 with e2 _;subst e2;refine⟨X,c,rfl,hc,?_⟩;rcases h with h |⟨g,cur,τ,rfl,hg,hw,hs,hm,Qh⟩
 ·exact .inl h
 refine .inr ⟨g,cur,τ,rfl,hg,hw,hs,hm,λk hk=>?_⟩;have:=Qh k hk;refine ca (w:=w) ⟨λ_ _ _=>rfl,λ_ _ h=>h⟩ t (λ_ _ _=>rfl) (λg' dU _=>⟨⟨dU.1,dU.2.1⟩,dU.2.2⟩) (λp hp=>by simp[sub] at hp) this
theorem frozen0 {g o:Nat} {cur:Array Value} {e:TypeId} (hw:w.heap[g]?=some (.cells cur e (0,0))):w.frozen? ⟨g,o,none⟩=false:=by simp[World.frozen?,hw]
theorem atX {g o:Nat} {cur:Array Value} {e:TypeId} {v:Value} (hw:w.heap[g]?=some (.cells cur e (0,0))) (h:cur.toList[o]?=some v):w.cell? ⟨g,o,none⟩=some v:=by rw[bK] at h;simp[World.cell?,hw,h]
theorem V9 {Γ:Gl} {t:Ty} {zs:Array Value} {i0:TypeInfo} (L:afC P ρ t.size zs i0) (me:Md) (aEq:uK t me=true):Sound Γ P (ρ.f 22) (cX [.v (.sl t) (.o (ρ.t 9) none me),.v (.int .i64) .k,.v (.sl t) (.o (ρ.t 9) none me)]
  λx kf=>bif decide (0<=x.2.1)&&(decide (x.2.1<=(length x.1:Int))&&(Nat.blt 0 (length x.2.2.1)&&Nat.ble ((length x.1+length x.2.2.1)*t.size) 4398046511104)) then kf ⟨[⟨.sl t,.o (ρ.t 9) none me,List.take (toNat x.2.1) x.1++x.2.2.1++List.drop (toNat x.2.1) x.1⟩],[]⟩ else none):=by
 refine⟨?_,λal=>?_⟩
 rotate_left
 ·unfold cX
  split
  ·exact jk.bif _ (jk.pure _) jk.none
  ·exact jk.none
 intro args kf ret w σ fC H B hr mI
 unfold cX at hr
 split at hr
 case h_2=>cases hr
 rename_i x hx
 have:=uM _ args hx
 subst this
 rcases x with⟨xs,(ii:Int),vs,u⟩
 simp only[iS] at mI hr
 cases hc0:(decide (0<=ii)&&(decide (ii<=(length xs:Int))&&(Nat.blt 0 (length vs)&&Nat.ble ((length xs+length vs)*t.size) 4398046511104))) with
 |false=>rw[hc0] at hr;cases hr
 |true=>
 rw[hc0] at hr
 simp only[ab] at hr
 simp only[ai,ax] at hc0
 obtain⟨hi0,hi1,hm0,apM⟩:=hc0
 have hm0:0<length vs:=by rwa [Nat.blt_eq] at hm0
 have apM:(length xs+length vs)*t.size<=4398046511104:=by rwa [qQ] at apM
 obtain⟨i,rfl⟩:∃ i:Nat,ii=(i:Int):=⟨ii.toNat,by omega⟩
 have hi:i<=length xs:=by omega
 simp only[aj] at hr
 obtain⟨v,v2,rfl,hx1,TL⟩:=atW mI
 have hMx:=hx1
 obtain⟨X,c,rfl,hc,hX⟩:=afE hx1
 obtain⟨X2,vc,rfl,hvc,hX2⟩:=afE TL
 rcases hX2 with⟨h0,_⟩ |⟨vb,aAD,τv,rfl,hvg,hvw,hvs,hvm,aDp⟩
 ·rw[h0] at hm0;simp at hm0
 have hen:(callFunc (ρ.f 22) [Value.slice X (length xs) c,.int .i64 i,Value.slice (some ⟨vb,0,none⟩) (length vs) vc].toArray).run P w=.ok (.enter (ρ.f 22) [Value.slice X (length xs) c,.int .i64 i,Value.slice (some ⟨vb,0,none⟩) (length vs) vc].toArray) w:=L.FB.enters rfl _ w
 have hmx:maxLen=9223372036854775807:=rfl
 have ZH:0<t.size:=L.ZH
 have aqP:xs.length+vs.length<=4398046511104:=vG (Nat.le_mul_of_pos_right _ ZH) apM
 have ahl:c<=9223372036854775807/\(X=none->c=0):=by
  rcases hX with⟨_,h⟩ |⟨g,cur,τ,rfl,hg,hw,hs,hm,Qh⟩
  ·exact⟨by omega,λ_=>h⟩
  ·exact⟨by omega,λhx=>by cases hx⟩
 have hms:vs.length*t.size<=vc*t.size:=aD _ hvc
 have hvt:aAD.toList.length=vc*t.size:=by simpa using hvs
 obtain⟨mA,hvr⟩:∃ mA,mA=aAD.toList.take (vs.length*t.size):=⟨_,rfl⟩
 have hvl:mA.length=vs.length*t.size:=by rw[hvr,aH,hvt];omega
 have atY:∀ k (hk:k<vs.length),M w (Av σ B) H t me vs[k] ((mA.drop (k*t.size)).take t.size) (λg'=>(σ g'=some 2/\g'≠vb)/\τv g'=k) []:=λk hk=>by
  rw[hvr,LA hk]
  exact aDp k hk
 have h1v:∀ u∈mA,u.oneCell'=true:=by
  rw[hvr]
  exact LC vs.length λk hk u hu=>(rK t (aDp k hk)).2 u hu
 have atZ:∀ j u,mA[j]?=some u->w.cell? ⟨vb,0+j,none⟩=some u:=λj u hj=>by
  rw[hvr,bQ] at hj
  split at hj
  ·rw[aW];exact atX hvw hj
  ·cases hj
 have aEI:Own σ vb:=⟨2,hvg⟩
 by_cases heq:i=xs.length
 ·-- at the end
  subst heq
  have Ox:Src P t.size (ρ.t 24) (.slice (some ⟨vb,0,none⟩) vs.length vc) vs.length mA w:=Src.ofSlice w L.t24 ⟨vb,0,none⟩ vs.length vc mA hvl (λj u hu=>by rw[jL];exact atZ j u hu) h1v
  obtain⟨v',w',kF,_,hM',xm,aDq,hle,hos,aDr,ad4⟩:=Un (P:=P) (Θ:=[]) rfl (T:=ρ.t 24) (T':=ρ.t 24) (ty:=ρ.t 24) L.t24 L.hi0 L.hz0 L.hz1 L.hby (by show zs.size=_;exact L.hz) ZH hMx Ox atY (λg' h1 h2=>by rw[h1] at h2;cases h2.1) (λg' h=>.inl ⟨0,h⟩) (λg' h=>(mI.lt g' 0 h).2) (λg' h=>(mI.lt g' 2 h.1).2) apM
  have iD:∀ ty,(Builtin.append_ #[(ρ.t 24),(ρ.t 24)] ty #[.slice X xs.length c,.slice (some ⟨vb,0,none⟩) vs.length vc]).run P w=.ok v' w':=λty=>by assumption
  refine .inl ⟨hen,(amN L X xs.length c vb 0 vs.length vc w w' v' hm0 hc ahl.1 ahl.2 iD).mono λen w2 he=>?_⟩
  obtain⟨rfl,rfl⟩:=he
  refine⟨_,hr,⟨hos,aDr,ad4,hle,λg' gU hn'=>xm g' gU λe=>hn' ⟨0,e⟩⟩,λg'=>open Classical in if kF g' then some 0 else none,[v'],rfl,rfl,λg' q dU=>?_,λq b hb=>?_,λd hd=>(by cases hd)⟩
  ·by_cases h:kF g'
   ·obtain⟨h1,h2⟩:=aDq g' h
    refine⟨?_,h1⟩
    rcases h2 with h2 |h2 |h2
    ·exact .inr ⟨0,h2⟩
    ·exact .inr ⟨2,h2.1⟩
    ·exact .inl h2
   ·simp only[h,c9] at dU;cases dU
  ·cases q with
   |succ q=>simp at hb
   |zero=>
    simp only[aE,ah] at hb
    subst hb
    refine⟨v',[v'],rfl,by simp[a7,isAgg],?_⟩
    have e3:List.take xs.length xs++vs++List.drop xs.length xs=xs++vs:=by rw[kh,List.drop_length,b6]
    simp only[e3]
    refine ca (w:=w2) ⟨λ_ _ _=>rfl,λg' dU hx=>?_⟩ (.sl t) (λ_ _ _=>rfl) (λg' dU _=>by simp only[dU,dF]) (λ_ h=>h) hM'
    rcases hx with⟨q,hq⟩ |hz
    rotate_left
    ·exact .inl (.inr hz)
    by_cases h:kF g'
    ·obtain⟨h1,h2⟩:=aDq g' h
     rcases h2 with h2 |h2 |h2
     ·exact .inl (.inl ⟨0,h2⟩)
     ·exact .inl (.inl ⟨2,h2.1⟩)
     ·exact .inr h2
    ·simp only[h,c9] at hq;cases hq
 have awj:i<xs.length:=by omega
 rcases hX with⟨h0,_⟩ |⟨g,cur,τ,rfl,hg,hw,hs,hm,Qh⟩
 ·rw[h0] at awj;simp at awj
 have hgv:vb≠g:=λe=>by rw[e,hg] at hvg;cases hvg
 have hns:xs.length*t.size<=c*t.size:=aD _ hc
 have hct:cur.toList.length=c*t.size:=by simpa using hs
 obtain⟨rows,hrw⟩:∃ rows,rows=cur.toList.take (xs.length*t.size):=⟨_,rfl⟩
 have C1:rows.length=xs.length*t.size:=by rw[hrw,aH,hct];omega
 have wc:∀ k (hk:k<xs.length),M w (Av σ B) H t me xs[k] ((rows.drop (k*t.size)).take t.size) (λg'=>(σ g'=some 0/\g'≠g)/\τ g'=k) []:=λk hk=>by
  rw[hrw,LA hk]
  exact Qh k hk
 have h1c:∀ u∈rows,u.oneCell'=true:=by
  rw[hrw]
  exact LC xs.length λk hk u hu=>(rK t (Qh k hk)).2 u hu
 have sB:∀ j u,rows[j]?=some u->w.cell? ⟨g,0+j,none⟩=some u:=λj u hj=>by
  rw[hrw,bQ] at hj
  split at hj
  ·rw[aW];exact atX hw hj
  ·cases hj
 have aEv:g<w.heap.size:=dz hw
 have aEw:vb<w.heap.size:=dz hvw
 have his:i*t.size<=xs.length*t.size:=aD _ hi
 have hdl:(rows.drop (i*t.size)).length=xs.length*t.size - i*t.size:=by rw[a8,C1]
 have em:(i+vs.length)*t.size=i*t.size+vs.length*t.size:=bg _ _ _
 have en:(xs.length+vs.length)*t.size=xs.length*t.size+vs.length*t.size:=bg _ _ _
 have hdo:∀ u∈rows.drop (i*t.size),u.oneCell'=true:=λu hu=>h1c u (dV hu)
 by_cases Oy:xs.length+vs.length<=c
 ·-- room
  have hrs:(xs.length+vs.length)*t.size<=c*t.size:=aD _ Oy
  have aEx:w.drew.heap[g]?=some (.cells cur (ρ.t 9) (0,0)):=hw
  refine .inl ⟨hen,(ahk L g 0 xs.length c i vb 0 vs.length vc rows mA w awj hm0 Oy ahl.1 hgv C1 hvl sB (λj hj=>by
    rw[aW]
    have:j<cur.size:=by omega
    simp[World.cell?,hw,this]) (λj hj=>frozen0 hw) atZ h1c h1v (ρ.t 9) (ρ.t 9) aAD.size cur.size (by simp[World.shape?,hvw]) (by simp[World.shape?,hw]) (λh=>by have h1:0<c*t.size:=Nat.mul_pos (by omega) ZH;omega) (frozen0 hvw) (frozen0 hvw)).mono λen w2 he=>?_⟩
  obtain⟨rfl,MC⟩:=he
  simp only[aW] at MC
  have hp1:(i+vs.length)*t.size+(rows.drop (i*t.size)).length<=cur.size:=by rw[hdl];omega
  have hL1:=yK cur.toList (rows.drop (i*t.size)) ((i+vs.length)*t.size) (by simpa using hp1)
  rw[mJ (w:=w.drew) (g:=g) (t:=ρ.t 9) (cur:=cur) hw hp1 hdo,
   mJ (g:=g) (t:=ρ.t 9) (cur:=(Go.Pv.putCells cur.toList ((i+vs.length)*t.size) (rows.drop (i*t.size))).toArray) (iw w.drew g cur _ (ρ.t 9) (0,0) hw) (by rw[cg,hL1,hvl,hct];omega) h1v,setRow_setRow] at MC
  subst MC
  simp only[b5]
  obtain⟨d1,d2⟩:=(afD (s:=t.size) (i:=i) (m:=vs.length) (n:=xs.length) (base:=cur.toList) (rows:=rows) (mA:=mA) (by rw[hct];omega) C1 hvl hi (λq hq=>by rw[hrw,bQ,aA (by omega)]) trivial).1
  obtain⟨vW,akg⟩:∃ vW,vW=Go.Pv.putCells (Go.Pv.putCells cur.toList ((i+vs.length)*t.size) (rows.drop (i*t.size))) (i*t.size) mA:=⟨_,rfl⟩
  rw[←akg] at d1 d2 ⊢
  have su:(w.drew.setRow g vW.toArray).heap[g]?=some (.cells vW.toArray (ρ.t 9) (0,0)):=iw w.drew g cur _ (ρ.t 9) (0,0) hw
  have Gp:∀ g',g'≠g->(w.drew.setRow g vW.toArray).heap[g']?=w.heap[g']?:=λg' h=>kR w.drew g g' _ h
  have amK:(w.drew.setRow g vW.toArray).heap.size=w.heap.size:=jM w.drew g _
  let nK:Nat->Option Nat:=λg'=>if σ g'=some 0∨σ g'=some 2 then some 0 else none
  have hσ:∀ g' q,nK g'=some q↔(σ g'=some 0∨σ g'=some 2)/\q=0:=λg' q=>by
   simp only[nK]
   split
   ·rename_i h;exact⟨λe=>⟨h,by injection e with e;exact e.symm⟩,λe=>by rw[e.2]⟩
   ·rename_i h;exact⟨λe=>(by cases e),λe=>absurd e.1 h⟩
  have apN:∀ g' q,nK g'=some q->Own σ g':=λg' q h=>by
   rcases((hσ g' q).1 h).1 with h |h
   ·exact⟨0,h⟩
   ·exact⟨2,h⟩
  refine⟨_,hr,⟨rfl,rfl,rfl,by rw[amK];exact aR _,λg' _ hn'=>Gp g' λe=>hn' ⟨0,by rw[e];exact hg⟩⟩,nK,[.slice (some ⟨g,0,none⟩) (xs.length+vs.length) c],rfl,rfl,λg' q dU=>⟨.inr (apN g' q dU),by obtain⟨q',NQ⟩:=apN g' q dU;rw[amK];exact(mI.lt g' q' NQ).2⟩,λq b hb=>?_,λd hd=>(by cases hd)⟩
  cases q with
  |succ q=>simp at hb
  |zero=>
   simp only[aE,ah] at hb
   subst hb
   refine⟨_,[.slice (some ⟨g,0,none⟩) (xs.length+vs.length) c],rfl,by simp[a7,isAgg],?_⟩
   have gy:cR w (w.drew.setRow g vW.toArray) (Av σ B) (Av nK B):=⟨λg' hn' _=>Gp g' λe=>hn' (.inl ⟨0,by rw[e];exact hg⟩),λg' _ dU=>dU.imp (λ⟨q,hq⟩=>apN g' q hq) id⟩
   refine akj (P0:=λg'=>σ g'=some 0/\g'≠g) (P2:=λg'=>σ g'=some 2/\g'≠vb) hi gy (λg' h=>⟨(hσ g' 0).2 ⟨.inl h.1,rfl⟩,h.2,λe=>by rw[h.1] at e;cases e.1⟩)
    (λg' h=>⟨(hσ g' 0).2 ⟨.inr h.1,rfl⟩,λe=>by rw[e,hg] at h;cases h.1⟩) (λg' h=>Gp g' ?_) ((hσ g 0).2 ⟨.inl hg,rfl⟩) su (by rw[cg,d1,hct]) hm Oy wc atY (by rw[b5];exact d2)
   rcases h with h |h
   ·exact h.2
   ·intro e;rw[e,hg] at h;cases h.1
 ·have aqQ:(xs.length+vs.length)*i0.bytes<=140737488355328:=by
   have e1:(xs.length+vs.length)*i0.bytes<=(xs.length+vs.length)*(32*t.size):=pD _ L.hby
   have e2:(xs.length+vs.length)*(32*t.size)=32*((xs.length+vs.length)*t.size):=by rw[Nat.mul_left_comm]
   omega
  refine .inl ⟨hen,(aki L g 0 xs.length c i vb 0 vs.length vc rows mA w awj hm0 hc (by omega) ahl.1 aqQ aqP C1 hvl aEv aEw sB atZ h1c h1v).mono λen w2 he=>?_⟩
  obtain⟨rfl,MC⟩:=he
  obtain⟨G,hG⟩:∃ G,G=grownCap w (xs.length+vs.length) c (ρ.t 9):=⟨_,rfl⟩
  have hGn:xs.length+vs.length<=G:=by rw[hG];exact vH w _ _ _
  have hGm:G<=maxLen:=by rw[hG];exact og w (xs.length+vs.length) c (ρ.t 9) (by omega)
  rw[←hG] at MC ⊢
  obtain⟨Q5,amO⟩:∃ Q5:Array Value,Q5=(rows.take (i*t.size)).toArray++Builtin.zeroCells zs (xs.length+vs.length - i)++Builtin.zeroCells zs (G - (xs.length+vs.length)):=⟨_,rfl⟩
  rw[←amO] at MC
  have hRs:Q5.size=G*t.size:=by
   have e1:i*t.size+(xs.length+vs.length - i)*t.size+(G - (xs.length+vs.length))*t.size=G*t.size:=by rw[←bg,←bg];congr 1;omega
   rw[amO,jq,jq,cg,aH,C1]
   simp only[Builtin.zeroCells,Array.size_map,Array.size_range,L.hz]
   omega
  have aDs:∀ q,q<i*t.size->Q5.toList[q]?=rows[q]?:=λq hq=>by
   rw[amO,nI,nI,b5,bA,dY (by rw[aH,C1];omega),bQ,aA hq]
  have hRt:Q5.toList.length=G*t.size:=by simpa using hRs
  have hGs:(xs.length+vs.length)*t.size<=G*t.size:=aD _ hGn
  have hA0:((w.alloc (.cells Q5 (ρ.t 9))).drew).heap[w.heap.size]?=some (.cells Q5 (ρ.t 9) (0,0)):=ia w _
  have hp1:i*t.size+mA.length<=Q5.size:=by rw[hvl,hRs];omega
  have hL1:=yK Q5.toList mA (i*t.size) (by simpa using hp1)
  rw[mJ (w:=(w.alloc (.cells Q5 (ρ.t 9))).drew) (g:=w.heap.size) (t:=ρ.t 9) (cur:=Q5) hA0 hp1 h1v] at MC
  have hA1:(((w.alloc (.cells Q5 (ρ.t 9))).drew.setRow w.heap.size (Go.Pv.putCells Q5.toList (i*t.size) mA).toArray).drew).heap[w.heap.size]?=some (.cells (Go.Pv.putCells Q5.toList (i*t.size) mA).toArray (ρ.t 9) (0,0)):=iw _ _ Q5 _ (ρ.t 9) (0,0) hA0
  rw[mJ (g:=w.heap.size) (t:=ρ.t 9) (cur:=(Go.Pv.putCells Q5.toList (i*t.size) mA).toArray) hA1 (by rw[cg,hL1,hdl,hRt];omega) hdo] at MC
  simp only[b5] at MC
  obtain⟨d1,d2⟩:=(afD (s:=t.size) (i:=i) (m:=vs.length) (n:=xs.length) (base:=Q5.toList) (rows:=rows) (mA:=mA) (by rw[hRt];omega) C1 hvl hi aDs trivial).2
  obtain⟨vW,akg⟩:∃ vW,vW=Go.Pv.putCells (Go.Pv.putCells Q5.toList (i*t.size) mA) ((i+vs.length)*t.size) (rows.drop (i*t.size)):=⟨_,rfl⟩
  rw[←akg] at d1 d2 MC
  have su:w2.heap[w.heap.size]?=some (.cells vW.toArray (ρ.t 9) (0,0)):=by rw[MC];exact iw _ _ _ _ (ρ.t 9) (0,0) hA1
  have Gp:∀ g',g'<w.heap.size->w2.heap[g']?=w.heap[g']?:=λg' h=>by
   rw[MC,kR _ _ _ _ (by omega)]
   show(World.setRow _ _ _).heap[g']?=_
   rw[kR _ _ _ _ (by omega)]
   exact heap_alloc_old w _ h
  have amK:w2.heap.size=w.heap.size+1:=by
   rw[MC,jM]
   show(World.setRow _ _ _).heap.size=_
   rw[jM]
   show(w.alloc _).heap.size=_
   simp
  have Ms:w2.os=w.os/\w2.tape=w.tape/\w2.output=w.output:=by rw[MC];exact⟨rfl,rfl,rfl⟩
  let nK:Nat->Option Nat:=λg'=>if σ g'=some 0∨σ g'=some 2∨g'=w.heap.size then some 0 else none
  have hσ:∀ g' q,nK g'=some q↔(σ g'=some 0∨σ g'=some 2∨g'=w.heap.size)/\q=0:=λg' q=>by
   simp only[nK]
   split
   ·rename_i h;exact⟨λe=>⟨h,by injection e with e;exact e.symm⟩,λe=>by rw[e.2]⟩
   ·rename_i h;exact⟨λe=>(by cases e),λe=>absurd e.1 h⟩
  have apN:∀ g' q,nK g'=some q->Own σ g'∨g'=w.heap.size:=λg' q h=>by
   rcases((hσ g' q).1 h).1 with h |h |h
   ·exact .inl ⟨0,h⟩
   ·exact .inl ⟨2,h⟩
   ·exact .inr h
  refine⟨_,hr,⟨Ms.1,Ms.2.1,Ms.2.2,by rw[amK];omega,λg' h _=>Gp g' h⟩,nK,[.slice (some ⟨w.heap.size,0,none⟩) (xs.length+vs.length) G],rfl,rfl,λg' q dU=>?_,λq b hb=>?_,λd hd=>(by cases hd)⟩
  ·rcases apN g' q dU with h |h
   ·refine⟨.inr h,?_⟩
    obtain⟨q',NQ⟩:=h
    have:=(mI.lt g' q' NQ).2
    omega
   ·exact⟨.inl (by omega),by omega⟩
  cases q with
  |succ q=>simp at hb
  |zero=>
   simp only[aE,ah] at hb
   subst hb
   refine⟨_,[.slice (some ⟨w.heap.size,0,none⟩) (xs.length+vs.length) G],rfl,by simp[a7,isAgg],?_⟩
   have gy:cR w w2 (Av σ B) (Av nK B):=⟨λg' _ h=>Gp g' h,λg' h dU=>dU.imp (λ⟨q,hq⟩=>(apN g' q hq).resolve_right (by omega)) id⟩
   refine akj (P0:=λg'=>σ g'=some 0/\g'≠g) (P2:=λg'=>σ g'=some 2/\g'≠vb) hi gy (λg' h=>⟨(hσ g' 0).2 ⟨.inl h.1,rfl⟩,λe=>?_,λe=>by rw[h.1] at e;cases e.1⟩)
    (λg' h=>⟨(hσ g' 0).2 ⟨.inr (.inl h.1),rfl⟩,λe=>?_⟩) (λg' h=>Gp g' ?_) ((hσ w.heap.size 0).2 ⟨.inr (.inr rfl),rfl⟩) su (by rw[cg,d1,hRt]) hGm hGn wc atY (by rw[b5];exact d2)
   ·have:=(mI.lt g' 0 h.1).2;omega
   ·have:=(mI.lt g' 2 h.1).2;omega
   ·rcases h with h |h
    ·exact(mI.lt g' 0 h.1).2
    ·exact(mI.lt g' 2 h.1).2
end
end Go.Pv
