/- Functions of the library (Del): what is told of them holds. -/
import Derived.Test.YteplhdhbdkpgjaaGreatDoorPrim
import Derived.Shelf.SlBodiesN
import Derived.Shelf.SlGeneric
import Derived.Shelf.RegionOpenPlain
import Derived.WalkKit
import Derived.Deep.LoopGhost
import Derived.Deep.RegionLaw
import Derived.Lib.Walk
import Derived.Sort.WalkB12
import Derived.Lib.SliceRun
import Derived.Lib.SlicesDelete
set_option linter.unusedSimpArgs false
set_option linter.unusedVariables false
namespace Go.Pv
open List Int IntKind
abbrev jz:= @Nat.sub_mul
abbrev uE:= @Go.Proofs.SlBodyN.n45_ntmps
open Go.Shelf Go.RowKit Go.Proofs
variable {P:Program} {ρ:Ren}
theorem adg (w:World) (t e ty:TypeId) (z:Value) (ht:P.underlying t=some (.slice e)) (hv:∀ w,(zeroValue e).run P w=.ok z w) (h1:∀ u∈z.cells,u.oneCell'=true) (b o n c:Nat) (hn:0<n) (hc:∀ j,j<n*z.cells.size->(w.cell? ⟨b,o+j,none⟩).isSome=true) (hf:∀ j,j<n*z.cells.size->w.frozen? ⟨b,o+j,none⟩=false): (Builtin.clear_ #[t] ty #[.slice (some ⟨b,o,none⟩) n c]).run P w=.ok (.tuple #[]) (w.setCells b o (Builtin.zeroCells z.cells n).toList):=by
 have hl:(Builtin.zeroCells z.cells n).toList.length=n*z.cells.size:=by simp[Builtin.zeroCells]
 have h2:∀ v∈(Builtin.zeroCells z.cells n).toList,v.oneCell'=true:=by
  intro v hv';simp only[Builtin.zeroCells,nf,cv] at hv';obtain⟨i,hi,rfl⟩:=hv';have hi:i<n*z.cells.size:=by simpa using hi
  have hs:0<z.cells.size:=Nat.pos_of_ne_zero λe=>(by rw[e] at hi;omega);have AY:=Nat.mod_lt i hs;rw[vU z.cells _ AY];exact h1 _ (Array.getElem_mem AY)
 have gy:=qI (P:=P) b o (Builtin.zeroCells z.cells n).toList 0 w (by rw[hl];simpa using hc) (by rw[hl];simpa using hf) h2;simp only[dZ] at gy;obtain⟨m,rfl⟩:∃ m,n=m+1:=⟨n - 1,by omega⟩;simp[Builtin.clear_,bc ht,hv,gy]
set_option maxHeartbeats 4000000 in
set_option maxRecDepth 1000000 in
theorem akd (mixed:P.follows .mixedOrders=true) (FB:Bears P (ρ.f 45) (SlBodyN.n45 ρ)) (t0:P.underlying (ρ.t 0)=some (TypeDesc.tuple #[])) (a0:∀ w,(Go.isAgg (ρ.t 0)).run P w=.ok false w) (z0:∀ w,(Go.sizeOf (ρ.t 0)).run P w=.ok 1 w) (v0:∀ w,(zeroValue (ρ.t 0)).run P w=.ok (Value.tuple #[]) w) (t3:P.underlying (ρ.t 3)=some (TypeDesc.int IntKind.i64)) (a3:∀ w,(Go.isAgg (ρ.t 3)).run P w=.ok false w) (z3:∀ w,(Go.sizeOf (ρ.t 3)).run P w=.ok 1 w) (v3:∀ w,(zeroValue (ρ.t 3)).run P w=.ok (Value.int IntKind.i64 0) w) (t4:P.underlying (ρ.t 4)=some (TypeDesc.bool)) (a4:∀ w,(Go.isAgg (ρ.t 4)).run P w=.ok false w) (z4:∀ w,(Go.sizeOf (ρ.t 4)).run P w=.ok 1 w) (v4:∀ w,(zeroValue (ρ.t 4)).run P w=.ok (Value.bool false) w) (t22:P.underlying (ρ.t 22)=some (TypeDesc.slice (ρ.t 23))) (a22:∀ w,(Go.isAgg (ρ.t 22)).run P w=.ok false w) (z22:∀ w,(Go.sizeOf (ρ.t 22)).run P w=.ok 1 w) (v22:∀ w,(zeroValue (ρ.t 22)).run P w=.ok (Value.slice none 0 0) w) {s:Nat} (z23:∀ w,(Go.sizeOf (ρ.t 23)).run P w=.ok s w) (X:Option Addr) (cap n i:Nat) (w:World) (apa:n<=cap) (hm:cap<=9223372036854775807) (hi:i<=n) (hX:X=none->cap=0): Calls P (ρ.f 45) #[.slice X n cap,.int .i64 i,.int .i64 i] w λe w'=>e=.returned (.slice X n cap)/\w'=w:=by
 obtain⟨_,_,FG⟩:=FB;cases X with
 |none=>obtain rfl:=hX rfl;obtain rfl:n=0:=(by omega);obtain rfl:i=0:=(by omega);go_enter FG,uE ρ;go_wp2;all_goals (go_ret;exact⟨rfl,rfl⟩)
 |some A=>go_enter FG,uE ρ;go_wp2;all_goals (go_ret;exact⟨rfl,rfl⟩)
set_option maxHeartbeats 4000000 in
set_option maxRecDepth 1000000 in
theorem ake (mixed:P.follows .mixedOrders=true) (FB:Bears P (ρ.f 45) (SlBodyN.n45 ρ)) (t0:P.underlying (ρ.t 0)=some (TypeDesc.tuple #[])) (a0:∀ w,(Go.isAgg (ρ.t 0)).run P w=.ok false w) (z0:∀ w,(Go.sizeOf (ρ.t 0)).run P w=.ok 1 w) (v0:∀ w,(zeroValue (ρ.t 0)).run P w=.ok (Value.tuple #[]) w) (t3:P.underlying (ρ.t 3)=some (TypeDesc.int IntKind.i64)) (a3:∀ w,(Go.isAgg (ρ.t 3)).run P w=.ok false w) (z3:∀ w,(Go.sizeOf (ρ.t 3)).run P w=.ok 1 w) (v3:∀ w,(zeroValue (ρ.t 3)).run P w=.ok (Value.int IntKind.i64 0) w) (t4:P.underlying (ρ.t 4)=some (TypeDesc.bool)) (a4:∀ w,(Go.isAgg (ρ.t 4)).run P w=.ok false w) (z4:∀ w,(Go.sizeOf (ρ.t 4)).run P w=.ok 1 w) (v4:∀ w,(zeroValue (ρ.t 4)).run P w=.ok (Value.bool false) w) (t22:P.underlying (ρ.t 22)=some (TypeDesc.slice (ρ.t 23))) (a22:∀ w,(Go.isAgg (ρ.t 22)).run P w=.ok false w) (z22:∀ w,(Go.sizeOf (ρ.t 22)).run P w=.ok 1 w) (v22:∀ w,(zeroValue (ρ.t 22)).run P w=.ok (Value.slice none 0 0) w) {s:Nat} (z23:∀ w,(Go.sizeOf (ρ.t 23)).run P w=.ok s w) {zs:Array Value} (v23:∀ w,(zeroValue (ρ.t 23)).run P w=.ok (.agg zs) w) (hz:zs.size=s) (hzo:∀ u∈zs,u.oneCell'=true) (i0:TypeInfo) (hi0:P.info? (ρ.t 23)=some i0) (hz1:i0.size=s) (blk off cap n i j:Nat) (rows:List Value) (w:World) (hrl:rows.length=n*s) (hro:∀ u∈rows,u.oneCell'=true) (cur:Array Value) (T:TypeId) (hw:w.heap[blk]?=some (.cells cur T (0,0))) (hb:off+n*s<=cur.size) (ayd:rows=(cur.toList.drop off).take (n*s)) (apa:n<=cap) (hm:cap<=9223372036854775807) (PM:i<j) (hj:j<=n): Calls P (ρ.f 45) #[.slice (some ⟨blk,off,none⟩) n cap,.int .i64 i,.int .i64 j] w λe w'=>e=.returned (.slice (some ⟨blk,off,none⟩) (i+(n - j)) cap)/\ w'=(w.drew.setCells blk (off+i*s) (rows.drop (j*s))).setCells blk (off+(i+(n - j))*s) (Builtin.zeroCells zs (n - (i+(n - j)))).toList:=by
 obtain⟨news,akf⟩:∃ news,news=rows.drop (j*s):=⟨_,rfl⟩;have Rs:∀ k u,rows[k]?=some u->w.cell? ⟨blk,off+k,none⟩=some u/\w.frozen? ⟨blk,off+k,none⟩=false:=λk u hu=>by have hk:k<n*s:=(by rw[←hrl];exact(bO.1 hu).1);rw[ayd,bQ,aA hk,cG,bK] at hu;exact⟨by simp only[World.cell?,hw];exact hu,by simp[World.frozen?,hw]⟩
 have hjn:j*s<=n*s:=aD s hj;have hlen:news.length=(n - j)*s:=by rw[akf,a8,hrl,jz]
 obtain⟨A,hA,Ox⟩:∃ A:Addr,(if cap=j then(some ⟨blk,off,none⟩:Option Addr) else some ⟨blk,off+j*s,none⟩)=some A/\Hid (∀ t u,news[t]?=some u->w.drew.cell? (A.add t)=some u):=by
  by_cases h:cap=j
  ·refine⟨⟨blk,off,none⟩,by simp[h],λt u hu=>?_⟩;have h0:news.length=0:=(by rw[hlen,show n - j=0 by omega,Nat.zero_mul]);rw[List.length_eq_zero_iff.1 h0] at hu;simp at hu
  refine⟨⟨blk,off+j*s,none⟩,by simp[h],λt u hu=>?_⟩;rw[akf,cG] at hu;rw[jL,show off+j*s+t=off+(j*s+t) by omega];exact(Rs _ u hu).1
 have s1:Hid (news.length=(n - j)*s):=hlen;have s2:Hid (∀ u∈news,u.oneCell'=true):=λu hu=>hro u (by rw[akf] at hu;exact dV hu);have tZ:∀ k,k<n*s->(w.cell? ⟨blk,off+k,none⟩).isSome=true/\w.frozen? ⟨blk,off+k,none⟩=false:=λk hk=>by have h1:rows[k]?=some (rows[k]'(by omega)):=aU (by omega);obtain⟨h2,h3⟩:=Rs k _ h1;rw[h2];exact⟨rfl,h3⟩
 have mI:i*s+(n - j)*s<=n*s:=by rw[←bg];exact aD s (by omega)
 have s3:Hid (∀ t,t<news.length->(w.drew.cell? ⟨blk,off+i*s+t,none⟩).isSome=true/\w.drew.frozen? ⟨blk,off+i*s+t,none⟩=false):=λt ht=>by rw[hlen] at ht;rw[fv];exact tZ (i*s+t) (by omega)
 obtain⟨W1,hW1⟩:∃ W1,W1=w.drew.setCells blk (off+i*s) news:=⟨_,rfl⟩;have C1:∀ ty,(Builtin.clear_ #[ρ.t 22] ty #[.slice (some ⟨blk,off+(i+(n - j))*s,none⟩) (n - (i+(n - j))) (cap - (i+(n - j)))]).run P W1=.ok (.tuple #[]) (W1.setCells blk (off+(i+(n - j))*s) (Builtin.zeroCells zs (n - (i+(n - j)))).toList):=by
  intro ty;have hnj:0<n - (i+(n - j)):=by omega
  have sW:∀ k,k<(n - (i+(n - j)))*s->(i+(n - j))*s+k<n*s:=λk hk=>(by have e:(i+(n - j))*s+(n - (i+(n - j)))*s=n*s:=(by rw[←bg];congr 1;omega);omega);have hcb:off+i*s+news.length<=cur.size:=(by rw[hlen];omega);have KT:=mJ (w:=w.drew) (g:=blk) (o:=off+i*s) (t:=T) (cur:=cur) (vs:=news) hw hcb s2.out;have hh:W1.heap[blk]?=some (.cells (Go.Pv.putCells cur.toList (off+i*s) news).toArray T (0,0)):=(by rw[hW1,KT];exact iw w.drew blk cur _ T (0,0) hw);have hcz:(Go.Pv.putCells cur.toList (off+i*s) news).length=cur.size:=(by rw[yK _ _ _ (by simpa using hcb)];simp);refine adg W1 _ _ ty (.agg zs) t22 v23 hzo blk _ _ _ hnj (λk hk=>?_) (λk hk=>?_)
  ·have uI:k<(n - (i+(n - j)))*s:=(by rw[←hz];exact hk);have:=sW k uI;simp only[World.cell?,hh];rw[dw (by rw[cg,hcz];omega)];rfl
  simp[World.frozen?,hh]
 have hN:Hid (news=rows.drop (j*s)):=akf;have hW:Hid (W1=w.drew.setCells blk (off+i*s) news):=hW1;have hic:i<=cap:=by omega
 have hjc:j<=cap:=by omega
 clear hW1 Rs akf hlen tZ mI hw hb ayd;obtain⟨_,_,FG⟩:=FB;go_enter FG,uE ρ;go_wp2_with fail;go_region_law_o (refine step_append_room rfl (.tmp 22) (.tmp 25) (ρ.t 22) rfl (ρ.t 23) i0 s t22 hi0 hz1 blk off i cap (by simp[Act.eval,Act.put]) A (n - j) (cap - j) news (by simp[Act.eval,Act.put]) s1.out Ox.out s2.out (by omega) s3.out ?_;rw[←hW.out]);go_wp2;go_ret;refine⟨rfl,?_⟩;rw[←hN.out,←hW.out]
theorem Ie (l:List Value) (o s q:Nat):((l.drop o).take s)[q]?=if q<s then l[o+q]? else none:=by
 rw[bQ];split
 ·rw[cG]
 rfl
theorem ahi {s n c i j:Nat} {cur:List Value} {zl:List Value} (hb:cur.length=c*s) (hc:n<=c) (PM:i<=j) (hj:j<=n) (hz:zl.length=(n - (i+(n - j)))*s): (Go.Pv.putCells (Go.Pv.putCells cur (i*s) (((cur.take (n*s))).drop (j*s))) ((i+(n - j))*s) zl).length=cur.length/\ ∀ k,k<i+(n - j)->((Go.Pv.putCells (Go.Pv.putCells cur (i*s) (((cur.take (n*s))).drop (j*s))) ((i+(n - j))*s) zl).drop (k*s)).take s=(cur.drop ((if k<i then k else k+(j - i))*s)).take s:=by
 have hns:n*s<=c*s:=aD s hc;have hjs:j*s<=n*s:=aD s hj;have mI:i*s+(n - j)*s<=n*s:=by rw[←bg];exact aD s (by omega)
 have TZ:((cur.take (n*s)).drop (j*s)).length=(n - j)*s:=by rw[a8,aH,jz];omega
 have he:(i+(n - j))*s+(n - (i+(n - j)))*s=n*s:=by rw[←bg];congr 1;omega
 have hp1:i*s+((cur.take (n*s)).drop (j*s)).length<=cur.length:=by rw[TZ];omega
 have hL1:=yK cur ((cur.take (n*s)).drop (j*s)) (i*s) hp1;have hp2:(i+(n - j))*s+zl.length<=(Go.Pv.putCells cur (i*s) ((cur.take (n*s)).drop (j*s))).length:=by rw[hL1,hz];omega
 refine⟨by rw[yK _ _ _ hp2,hL1],λk hk=>?_⟩;have Xd:(k+1)*s<=(i+(n - j))*s:=aD s hk;rw[bg,cM] at Xd;apply de;intro q;rw[Ie,Ie];by_cases hq:q<s
 ·rw[aA hq,aA hq,yJ _ _ _ _ hp2,aA (by omega),yJ _ _ _ _ hp1];by_cases hki:k<i
  ·have h1:(k+1)*s<=i*s:=aD s hki;rw[bg,cM] at h1;rw[aA hki,aA (by omega)]
  have h1:i*s<=k*s:=aD s (by omega);rw[aq hki,aq (by omega),TZ];have h2:(i+(n - j))*s=i*s+(n - j)*s:=bg _ _ _;rw[aA (by omega),cG,bQ];have h3:(k+(j - i))*s=k*s+(j*s - i*s):=(by rw[bg,jz]);have h4:i*s<=j*s:=aD s PM;have h5:(n - j)*s=n*s - j*s:=jz _ _ _;rw[aA (by omega)];congr 1;omega
 rw[aq hq,aq hq]
structure aye (P:Program) (ρ:Ren) (s:Nat) (zs:Array Value) (i0:TypeInfo):Prop where
 mixed:P.follows .mixedOrders=true
 FB:Bears P (ρ.f 45) (SlBodyN.n45 ρ)
 t0:P.underlying (ρ.t 0)=some (TypeDesc.tuple #[])
 a0:∀ w,(Go.isAgg (ρ.t 0)).run P w=.ok false w
 z0:∀ w,(Go.sizeOf (ρ.t 0)).run P w=.ok 1 w
 v0:∀ w,(zeroValue (ρ.t 0)).run P w=.ok (Value.tuple #[]) w
 t3:P.underlying (ρ.t 3)=some (TypeDesc.int IntKind.i64)
 a3:∀ w,(Go.isAgg (ρ.t 3)).run P w=.ok false w
 z3:∀ w,(Go.sizeOf (ρ.t 3)).run P w=.ok 1 w
 v3:∀ w,(zeroValue (ρ.t 3)).run P w=.ok (Value.int IntKind.i64 0) w
 t4:P.underlying (ρ.t 4)=some (TypeDesc.bool)
 a4:∀ w,(Go.isAgg (ρ.t 4)).run P w=.ok false w
 z4:∀ w,(Go.sizeOf (ρ.t 4)).run P w=.ok 1 w
 v4:∀ w,(zeroValue (ρ.t 4)).run P w=.ok (Value.bool false) w
 t22:P.underlying (ρ.t 22)=some (TypeDesc.slice (ρ.t 23))
 a22:∀ w,(Go.isAgg (ρ.t 22)).run P w=.ok false w
 z22:∀ w,(Go.sizeOf (ρ.t 22)).run P w=.ok 1 w
 v22:∀ w,(zeroValue (ρ.t 22)).run P w=.ok (Value.slice none 0 0) w
 z23:∀ w,(Go.sizeOf (ρ.t 23)).run P w=.ok s w
 v23:∀ w,(zeroValue (ρ.t 23)).run P w=.ok (.agg zs) w
 hz:zs.size=s
 hzo:zs.toList.all (λu=>u.oneCell')=true
 hi0:P.info? (ρ.t 23)=some i0
 hz1:i0.size=s
variable {w:World} {H:Nat->Value} {A:Nat->Prop}
theorem amJ {Γ:Gl} {B:Nat->Prop} {t:Ty} {m:Md} {xs:List t.I} {i j:Int} {σ:Nat->Option Nat} {fC:List Value} (mI:In Γ B H w σ [.tv ⟨.sl t,m,xs⟩,.tv ⟨.int .i64,.k,i⟩,.tv ⟨.int .i64,.k,j⟩] fC):
  ∃ v,fC=[v,.int .i64 i,.int .i64 j]/\M w (Av σ B) H (.sl t) m xs [v] (λg=>σ g=some 0) []:=by
 obtain⟨v,hv,cs,h1,h2⟩:=mI.ok 0 _ rfl
 obtain⟨v1,hv1,cs1,h3,h4⟩:=mI.ok 1 _ rfl
 obtain⟨v2,hv2,cs2,h5,h6⟩:=mI.ok 2 _ rfl
 have wS:cs=[v]:=by simpa[a7,isAgg] using h1
 subst wS
 refine⟨v,?_,h2⟩
 simp only[M] at h4 h6
 have e1:=kZ h3 h4.2
 have e2:=kZ h5 h6.2
 subst e1 e2
 have hl:=mI.len
 match fC,hl,hv,hv1,hv2 with
 |[a,b,c],_,hv,hv1,hv2=>simp at hv hv1 hv2;rw[hv,hv1,hv2]
theorem ahj {Γ:Gl} {t:Ty} {zs:Array Value} {i0:TypeInfo} (L:aye P ρ t.size zs i0) (e:TypeId) (me:Md) (aEq:uK t me=true):Sound Γ P (ρ.f 45) (cX [.v (.sl t) (.o e none me),.v (.int .i64) .k,.v (.int .i64) .k]
  λx kf=>bif decide (0<=x.2.1)&&(decide (x.2.1<=x.2.2.1)&&decide (x.2.2.1<=(length x.1:Int))) then kf ⟨[⟨.sl t,.o e none me,List.take (toNat x.2.1) x.1++List.drop (toNat x.2.2.1) x.1⟩],[]⟩ else none):=by
 refine⟨?_,λal=>?_⟩
 rotate_left
 ·unfold cX
  split
  ·exact jk.bif _ (jk.pure _) jk.none
  ·exact jk.none
 intro args kf ret w σ fC H B hr mI
 unfold cX at hr
 split at hr
 case h_2=>cases hr
 rename_i x hx
 have:=uM _ args hx
 subst this
 rcases x with⟨xs,(ii:Int),(jj:Int),u⟩
 simp only[iS] at mI hr
 cases hc0:(decide (0<=ii)&&(decide (ii<=jj)&&decide (jj<=(length xs:Int)))) with
 |false=>rw[hc0] at hr;cases hr
 |true=>
 rw[hc0] at hr
 simp only[ab] at hr
 simp only[ai,ax] at hc0
 obtain⟨hi0,aET,hj0⟩:=hc0
 obtain⟨i,rfl⟩:∃ i:Nat,ii=(i:Int):=⟨ii.toNat,by omega⟩
 obtain⟨j,rfl⟩:∃ j:Nat,jj=(j:Int):=⟨jj.toNat,by omega⟩
 have PM:i<=j:=by omega
 have hj:j<=length xs:=by omega
 simp only[aj] at hr
 obtain⟨v,rfl,h2⟩:=amJ mI
 have hM0:=h2
 simp only[M] at h2
 rcases h2 with⟨hn,_⟩ |⟨hk,_⟩ |⟨T,aqy,me',X,c,e1,e2,hc,ht,h⟩
 ·simp at hn
 ·simp[Md.fu] at hk
 injection e1 with e1 Uf LB
 subst e1 Uf LB
 injection e2 with e2 _
 subst e2
 have hen:(callFunc (ρ.f 45) [Value.slice X (length xs) c,.int .i64 i,.int .i64 j].toArray).run P w=.ok (.enter (ρ.f 45) [Value.slice X (length xs) c,.int .i64 i,.int .i64 j].toArray) w:=L.FB.enters rfl _ w
 have hmx:maxLen=9223372036854775807:=rfl
 by_cases heq:i=j
 ·subst heq
  have hcm:c<=9223372036854775807/\(X=none->c=0):=by
   rcases h with⟨_,h⟩ |⟨g,cur,τ,rfl,hg,hw,hs,hm,Qh⟩
   ·exact⟨by omega,λ_=>h⟩
   ·exact⟨by omega,λhx=>by cases hx⟩
  refine .inl ⟨hen,(akd L.mixed L.FB L.t0 L.a0 L.z0 L.v0 L.t3 L.a3 L.z3 L.v3 L.t4 L.a4 L.z4 L.v4 L.t22 L.a22 L.z22 L.v22 L.z23 X c (length xs) i w hc hcm.1 hj hcm.2).mono λen w' he=>?_⟩
  obtain⟨rfl,rfl⟩:=he
  refine⟨_,hr,⟨rfl,rfl,rfl,aR _,λ_ _ _=>rfl⟩,σ,[.slice X (length xs) c],rfl,rfl,λg q hg=>⟨.inr ⟨q,hg⟩,(mI.lt g q hg).2⟩,λq b hb=>?_,λd hd=>(by cases hd)⟩
  cases q with
  |succ q=>simp at hb
  |zero=>
   simp only[aE,ah] at hb
   subst hb
   refine⟨_,[.slice X (length xs) c],rfl,by simp[a7,isAgg],?_⟩
   have e3:List.take i xs++List.drop i xs=xs:=ep i xs
   rw[e3]
   exact hM0
 ·have gU:i<j:=by omega
  rcases h with⟨hx0,_⟩ |⟨g,cur,τ,rfl,hg,hw,hs,hm,Qh⟩
  ·rw[hx0] at hj;simp at hj;omega
  obtain⟨n,hn⟩:∃ n,n=length xs:=⟨_,rfl⟩
  rw[←hn] at hj hc hen ⊢
  have hns:n*t.size<=c*t.size:=aD _ hc
  have hrl:(cur.toList.take (n*t.size)).length=n*t.size:=by rw[aH,bT];omega
  have hro:∀ u∈cur.toList.take (n*t.size),u.oneCell'=true:=LC n λk hk u hu=>(rK t (Qh k (by omega))).2 u hu
  have ayf:∀ u∈zs,u.oneCell'=true:=λu hu=>aO.1 L.hzo u (by simpa using hu)
  refine .inl ⟨hen,(ake L.mixed L.FB L.t0 L.a0 L.z0 L.v0 L.t3 L.a3 L.z3 L.v3 L.t4 L.a4 L.z4 L.v4 L.t22 L.a22 L.z22 L.v22 L.z23 L.v23 L.hz ayf i0 L.hi0 L.hz1 g 0 c n i j (cur.toList.take (n*t.size)) w hrl hro cur e hw (by omega) (by rw[dX]) hc (by omega) gU hj).mono λen w' he=>?_⟩
  obtain⟨rfl,hw'⟩:=he
  simp only[aW] at hw'
  obtain⟨zl,hzl⟩:∃ zl,zl=(Builtin.zeroCells zs (n - (i+(n - j)))).toList:=⟨_,rfl⟩
  have aDk:zl.length=(n - (i+(n - j)))*t.size:=by rw[hzl];simp[Builtin.zeroCells,L.hz]
  have hzo:∀ u∈zl,u.oneCell'=true:=by
   intro u hu
   rw[hzl] at hu
   simp only[Builtin.zeroCells,nf,cv] at hu
   obtain⟨k,hk,rfl⟩:=hu
   have hk:k<(n - (i+(n - j)))*zs.size:=by simpa using hk
   have h0:0<zs.size:=Nat.pos_of_ne_zero λe=>by rw[e] at hk;omega
   have h1:=Nat.mod_lt k h0
   rw[vU zs _ h1]
   exact ayf _ (Array.getElem_mem h1)
  rw[←hzl] at hw'
  obtain⟨d1,d2⟩:=ahi (s:=t.size) (n:=n) (c:=c) (i:=i) (j:=j) (cur:=cur.toList) (zl:=zl) (by simpa using hs) hc PM hj aDk
  have hjs:j*t.size<=n*t.size:=aD _ hj
  have aEU:i*t.size+(n - j)*t.size<=n*t.size:=by rw[←bg];exact aD _ (by omega)
  have he2:(i+(n - j))*t.size+(n - (i+(n - j)))*t.size=n*t.size:=by rw[←bg];congr 1;omega
  have hnl:((cur.toList.take (n*t.size)).drop (j*t.size)).length=(n - j)*t.size:=by rw[a8,hrl,jz]
  have hp1:i*t.size+((cur.toList.take (n*t.size)).drop (j*t.size)).length<=cur.size:=by rw[hnl];omega
  have hL1:=yK cur.toList ((cur.toList.take (n*t.size)).drop (j*t.size)) (i*t.size) (by simpa using hp1)
  rw[mJ (w:=w.drew) (g:=g) (t:=e) (cur:=cur) hw hp1 (λu hu=>hro u (dV hu)),
   mJ (g:=g) (t:=e) (cur:=(Go.Pv.putCells cur.toList (i*t.size) ((cur.toList.take (n*t.size)).drop (j*t.size))).toArray) (iw w.drew g cur _ e (0,0) hw) (by rw[cg,hL1,aDk,bT];omega) hzo,setRow_setRow] at hw'
  subst hw'
  obtain⟨vW,akg⟩:∃ vW,vW=Go.Pv.putCells (Go.Pv.putCells cur.toList (i*t.size) ((cur.toList.take (n*t.size)).drop (j*t.size))) ((i+(n - j))*t.size) zl:=⟨_,rfl⟩
  simp only[b5] at d1 d2 ⊢
  rw[←akg] at d1 d2 ⊢
  have su:(w.drew.setRow g vW.toArray).heap[g]?=some (.cells vW.toArray e (0,0)):=iw w.drew g cur _ e (0,0) hw
  have Gp:∀ g',g'≠g->(w.drew.setRow g vW.toArray).heap[g']?=w.heap[g']?:=λg' h=>kR w.drew g g' _ h
  have amK:(w.drew.setRow g vW.toArray).heap.size=w.heap.size:=jM w.drew g _
  let nK:Nat->Option Nat:=λg'=>if σ g'=some 0 then some 0 else none
  have hσ:∀ g' q,nK g'=some q↔σ g'=some 0/\q=0:=λg' q=>by
   simp only[nK]
   split
   ·rename_i h;exact⟨λe=>⟨h,by injection e with e;exact e.symm⟩,λe=>by rw[e.2]⟩
   ·rename_i h;exact⟨λe=>(by cases e),λe=>absurd e.1 h⟩
  refine⟨_,hr,⟨rfl,rfl,rfl,by rw[amK];exact aR _,λg' _ hn'=>Gp g' λe=>hn' ⟨0,by rw[e];exact hg⟩⟩,nK,[.slice (some ⟨g,0,none⟩) (i+(n - j)) c],rfl,rfl,λg' q dU=>?_,λq b hb=>?_,λd hd=>(by cases hd)⟩
  ·have h0:=((hσ g' q).1 dU).1
   exact⟨.inr ⟨0,h0⟩,by rw[amK];exact(mI.lt g' 0 h0).2⟩
  ·cases q with
   |succ q=>simp at hb
   |zero=>
    simp only[aE,ah] at hb
    subst hb
    refine⟨_,[.slice (some ⟨g,0,none⟩) (i+(n - j)) c],rfl,by simp[a7,isAgg],?_⟩
    have hyl:(List.take i xs++List.drop j xs).length=i+(n - j):=by rw[au,aH,a8,←hn];omega
    simp only[M]
    refine .inr (.inr ⟨e,none,me,some ⟨g,0,none⟩,c,rfl,by rw[hyl],by rw[hyl];omega,λh hh=>(by cases hh),.inr ⟨g,vW.toArray,λg'=>if τ g'<i then τ g' else τ g' - (j - i),rfl,(hσ g 0).2 ⟨hg,rfl⟩,su,by rw[cg,d1,bT];exact hs,hm,λk hk=>?_⟩⟩)
    have uI:k<i+(n - j):=by rw[←hyl];exact hk
    have wc:=d2 k uI
    simp only[b5]
    rw[wc]
    have gy:cR w (w.drew.setRow g vW.toArray) (Av σ B) (Av nK B):=⟨λg' hn' _=>Gp g' λe=>hn' (.inl ⟨0,by rw[e];exact hg⟩),λg' _ dU=>dU.imp (λ⟨q,hq⟩=>⟨0,((hσ g' q).1 hq).1⟩) id⟩
    by_cases hki:k<i
    ·rw[aA hki]
     have hx:(List.take i xs++List.drop j xs)[k]'hk=xs[k]'(by omega):=by
      rw[cN (by rw[aH];omega),gJ]
     rw[hx]
     refine ca gy t (λg' dU _=>Gp g' dU.2.1) (λg' dU _=>⟨(hσ g' 0).2 ⟨dU.1,rfl⟩,dU.2.1,?_⟩) (λp hp=>by simp[sub] at hp) (Qh k (by omega))
     rw[dU.2.2,aA hki]
    ·rw[aq hki]
     have hx:(List.take i xs++List.drop j xs)[k]'hk=xs[k+(j - i)]'(by omega):=by
      rw[dN (by rw[aH];omega),lT]
      congr 1
      rw[aH]
      omega
     rw[hx]
     refine ca gy t (λg' dU _=>Gp g' dU.2.1) (λg' dU _=>⟨(hσ g' 0).2 ⟨dU.1,rfl⟩,dU.2.1,?_⟩) (λp hp=>by simp[sub] at hp) (Qh (k+(j - i)) (by omega))
     rw[dU.2.2,aq (by omega)]
     omega
end Go.Pv
