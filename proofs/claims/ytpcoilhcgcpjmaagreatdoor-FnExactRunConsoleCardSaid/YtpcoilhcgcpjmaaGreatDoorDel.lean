/- Functions of the library (Del): what is told of them holds. -/
import Derived.Test.YtpcoilhcgcpjmaaGreatDoorPrim
import Derived.Shelf.SlBodiesN
import Derived.Shelf.SlGeneric
import Derived.Shelf.RegionOpenPlain
import Derived.WalkKit
import Derived.Deep.LoopGhost
import Derived.Deep.RegionLaw
import Derived.Lib.Walk
import Derived.Sort.WalkB12
import Derived.Lib.SliceRun
import Derived.Lib.SlicesDelete
set_option linter.unusedSimpArgs false
set_option linter.unusedVariables false
namespace Go.Pv
open List Int IntKind
abbrev jv:= @Nat.sub_mul
abbrev uA:= @Go.Proofs.SlBodyN.n45_ntmps
end Go.Pv
namespace Go.Pv
open List Int IntKind
open Go.Shelf Go.RowKit Go.Proofs
variable {P:Program} {ρ:Ren}
theorem acW (w:World) (t e ty:TypeId) (z:Value) (ht:P.underlying t=some (.slice e)) (hv:∀ w,(zeroValue e).run P w=.ok z w) (h1:∀ u∈z.cells,u.oneCell'=true) (b o n c:Nat) (hn:0<n) (hc:∀ j,j<n*z.cells.size->(w.cell? ⟨b,o+j,none⟩).isSome=true) (hf:∀ j,j<n*z.cells.size->w.frozen? ⟨b,o+j,none⟩=false): (Builtin.clear_ #[t] ty #[.slice (some ⟨b,o,none⟩) n c]).run P w=.ok (.tuple #[]) (w.setCells b o (Builtin.zeroCells z.cells n).toList):=by
 have hl:(Builtin.zeroCells z.cells n).toList.length=n*z.cells.size:=by simp[Builtin.zeroCells]
 have h2:∀ v∈(Builtin.zeroCells z.cells n).toList,v.oneCell'=true:=by
  intro v hv';simp only[Builtin.zeroCells,ng,cg] at hv';obtain⟨i,hi,rfl⟩:=hv';have hi:i<n*z.cells.size:=by simpa using hi
  have hs:0<z.cells.size:=Nat.pos_of_ne_zero λe=>(by rw[e] at hi;omega);have Ba:=Nat.mod_lt i hs;rw[vW z.cells _ Ba];exact h1 _ (Array.getElem_mem Ba)
 have fZ:=qw (P:=P) b o (Builtin.zeroCells z.cells n).toList 0 w (by rw[hl];simpa using hc) (by rw[hl];simpa using hf) h2;simp only[dM] at fZ;obtain⟨m,rfl⟩:∃ m,n=m+1:=⟨n - 1,by omega⟩;simp[Builtin.clear_,a7 ht,hv,fZ]
set_option maxHeartbeats 4000000 in
set_option maxRecDepth 1000000 in
theorem ajw (mixed:P.follows .mixedOrders=true) (FB:Bears P (ρ.f 45) (SlBodyN.n45 ρ)) (t0:P.underlying (ρ.t 0)=some (TypeDesc.tuple #[])) (a0:∀ w,(Go.isAgg (ρ.t 0)).run P w=.ok false w) (z0:∀ w,(Go.sizeOf (ρ.t 0)).run P w=.ok 1 w) (v0:∀ w,(zeroValue (ρ.t 0)).run P w=.ok (Value.tuple #[]) w) (t3:P.underlying (ρ.t 3)=some (TypeDesc.int IntKind.i64)) (a3:∀ w,(Go.isAgg (ρ.t 3)).run P w=.ok false w) (z3:∀ w,(Go.sizeOf (ρ.t 3)).run P w=.ok 1 w) (v3:∀ w,(zeroValue (ρ.t 3)).run P w=.ok (Value.int IntKind.i64 0) w) (t4:P.underlying (ρ.t 4)=some (TypeDesc.bool)) (a4:∀ w,(Go.isAgg (ρ.t 4)).run P w=.ok false w) (z4:∀ w,(Go.sizeOf (ρ.t 4)).run P w=.ok 1 w) (v4:∀ w,(zeroValue (ρ.t 4)).run P w=.ok (Value.bool false) w) (t22:P.underlying (ρ.t 22)=some (TypeDesc.slice (ρ.t 23))) (a22:∀ w,(Go.isAgg (ρ.t 22)).run P w=.ok false w) (z22:∀ w,(Go.sizeOf (ρ.t 22)).run P w=.ok 1 w) (v22:∀ w,(zeroValue (ρ.t 22)).run P w=.ok (Value.slice none 0 0) w) {s:Nat} (z23:∀ w,(Go.sizeOf (ρ.t 23)).run P w=.ok s w) (X:Option Addr) (cap n i:Nat) (w:World) (aoE:n<=cap) (hm:cap<=9223372036854775807) (hi:i<=n) (hX:X=none->cap=0): Calls P (ρ.f 45) #[.slice X n cap,.int .i64 i,.int .i64 i] w λe w'=>e=.returned (.slice X n cap)/\w'=w:=by
 obtain⟨_,_,FG⟩:=FB;cases X with
 |none=>obtain rfl:=hX rfl;obtain rfl:n=0:=(by omega);obtain rfl:i=0:=(by omega);go_enter FG,uA ρ;go_wp2;all_goals (go_ret;exact⟨rfl,rfl⟩)
 |some A=>go_enter FG,uA ρ;go_wp2;all_goals (go_ret;exact⟨rfl,rfl⟩)
set_option maxHeartbeats 4000000 in
set_option maxRecDepth 1000000 in
theorem ajx (mixed:P.follows .mixedOrders=true) (FB:Bears P (ρ.f 45) (SlBodyN.n45 ρ)) (t0:P.underlying (ρ.t 0)=some (TypeDesc.tuple #[])) (a0:∀ w,(Go.isAgg (ρ.t 0)).run P w=.ok false w) (z0:∀ w,(Go.sizeOf (ρ.t 0)).run P w=.ok 1 w) (v0:∀ w,(zeroValue (ρ.t 0)).run P w=.ok (Value.tuple #[]) w) (t3:P.underlying (ρ.t 3)=some (TypeDesc.int IntKind.i64)) (a3:∀ w,(Go.isAgg (ρ.t 3)).run P w=.ok false w) (z3:∀ w,(Go.sizeOf (ρ.t 3)).run P w=.ok 1 w) (v3:∀ w,(zeroValue (ρ.t 3)).run P w=.ok (Value.int IntKind.i64 0) w) (t4:P.underlying (ρ.t 4)=some (TypeDesc.bool)) (a4:∀ w,(Go.isAgg (ρ.t 4)).run P w=.ok false w) (z4:∀ w,(Go.sizeOf (ρ.t 4)).run P w=.ok 1 w) (v4:∀ w,(zeroValue (ρ.t 4)).run P w=.ok (Value.bool false) w) (t22:P.underlying (ρ.t 22)=some (TypeDesc.slice (ρ.t 23))) (a22:∀ w,(Go.isAgg (ρ.t 22)).run P w=.ok false w) (z22:∀ w,(Go.sizeOf (ρ.t 22)).run P w=.ok 1 w) (v22:∀ w,(zeroValue (ρ.t 22)).run P w=.ok (Value.slice none 0 0) w) {s:Nat} (z23:∀ w,(Go.sizeOf (ρ.t 23)).run P w=.ok s w) {zs:Array Value} (v23:∀ w,(zeroValue (ρ.t 23)).run P w=.ok (.agg zs) w) (hz:zs.size=s) (hzo:∀ u∈zs,u.oneCell'=true) (i0:TypeInfo) (hi0:P.info? (ρ.t 23)=some i0) (hz1:i0.size=s) (blk off cap n i j:Nat) (rows:List Value) (w:World) (hrl:rows.length=n*s) (hro:∀ u∈rows,u.oneCell'=true) (cur:Array Value) (T:TypeId) (hw:w.heap[blk]?=some (.cells cur T (0,0))) (hb:off+n*s<=cur.size) (axH:rows=(cur.toList.drop off).take (n*s)) (aoE:n<=cap) (hm:cap<=9223372036854775807) (QX:i<j) (hj:j<=n): Calls P (ρ.f 45) #[.slice (some ⟨blk,off,none⟩) n cap,.int .i64 i,.int .i64 j] w λe w'=>e=.returned (.slice (some ⟨blk,off,none⟩) (i+(n - j)) cap)/\ w'=(w.drew.setCells blk (off+i*s) (rows.drop (j*s))).setCells blk (off+(i+(n - j))*s) (Builtin.zeroCells zs (n - (i+(n - j)))).toList:=by
 obtain⟨news,ajy⟩:∃ news,news=rows.drop (j*s):=⟨_,rfl⟩;have SA:∀ k u,rows[k]?=some u->w.cell? ⟨blk,off+k,none⟩=some u/\w.frozen? ⟨blk,off+k,none⟩=false:=λk u hu=>by have hk:k<n*s:=(by rw[←hrl];exact(bL.1 hu).1);rw[axH,bM,ay hk,cr,bI] at hu;exact⟨by simp only[World.cell?,hw];exact hu,by simp[World.frozen?,hw]⟩
 have hjn:j*s<=n*s:=aC s hj;have hlen:news.length=(n - j)*s:=by rw[ajy,aX,hrl,jv]
 obtain⟨A,hA,PD⟩:∃ A:Addr,(if cap=j then(some ⟨blk,off,none⟩:Option Addr) else some ⟨blk,off+j*s,none⟩)=some A/\Hid (∀ t u,news[t]?=some u->w.drew.cell? (A.add t)=some u):=by
  by_cases h:cap=j
  ·refine⟨⟨blk,off,none⟩,by simp[h],λt u hu=>?_⟩;have h0:news.length=0:=(by rw[hlen,show n - j=0 by omega,Nat.zero_mul]);rw[p8.1 h0] at hu;simp at hu
  refine⟨⟨blk,off+j*s,none⟩,by simp[h],λt u hu=>?_⟩;rw[ajy,cr] at hu;rw[jP,show off+j*s+t=off+(j*s+t) by omega];exact(SA _ u hu).1
 have s1:Hid (news.length=(n - j)*s):=hlen;have s2:Hid (∀ u∈news,u.oneCell'=true):=λu hu=>hro u (by rw[ajy] at hu;exact dI hu);have tR:∀ k,k<n*s->(w.cell? ⟨blk,off+k,none⟩).isSome=true/\w.frozen? ⟨blk,off+k,none⟩=false:=λk hk=>by have h1:rows[k]?=some (rows[k]'(by omega)):=aN (by omega);obtain⟨h2,h3⟩:=SA k _ h1;rw[h2];exact⟨rfl,h3⟩
 have lT:i*s+(n - j)*s<=n*s:=by rw[←bc];exact aC s (by omega)
 have s3:Hid (∀ t,t<news.length->(w.drew.cell? ⟨blk,off+i*s+t,none⟩).isSome=true/\w.drew.frozen? ⟨blk,off+i*s+t,none⟩=false):=λt ht=>by rw[hlen] at ht;rw[fa];exact tR (i*s+t) (by omega)
 obtain⟨W1,hW1⟩:∃ W1,W1=w.drew.setCells blk (off+i*s) news:=⟨_,rfl⟩;have Da:∀ ty,(Builtin.clear_ #[ρ.t 22] ty #[.slice (some ⟨blk,off+(i+(n - j))*s,none⟩) (n - (i+(n - j))) (cap - (i+(n - j)))]).run P W1=.ok (.tuple #[]) (W1.setCells blk (off+(i+(n - j))*s) (Builtin.zeroCells zs (n - (i+(n - j)))).toList):=by
  intro ty;have hnj:0<n - (i+(n - j)):=by omega
  have rz:∀ k,k<(n - (i+(n - j)))*s->(i+(n - j))*s+k<n*s:=λk hk=>(by have e:(i+(n - j))*s+(n - (i+(n - j)))*s=n*s:=(by rw[←bc];congr 1;omega);omega);have hcb:off+i*s+news.length<=cur.size:=(by rw[hlen];omega);have KY:=mJ (w:=w.drew) (g:=blk) (o:=off+i*s) (t:=T) (cur:=cur) (vs:=news) hw hcb s2.out;have hh:W1.heap[blk]?=some (.cells (Go.Pv.putCells cur.toList (off+i*s) news).toArray T (0,0)):=(by rw[hW1,KY];exact ik w.drew blk cur _ T (0,0) hw);have hcz:(Go.Pv.putCells cur.toList (off+i*s) news).length=cur.size:=(by rw[yT _ _ _ (by simpa using hcb)];simp);refine acW W1 _ _ ty (.agg zs) t22 v23 hzo blk _ _ _ hnj (λk hk=>?_) (λk hk=>?_)
  ·have uH:k<(n - (i+(n - j)))*s:=(by rw[←hz];exact hk);have:=rz k uH;simp only[World.cell?,hh];rw[db (by rw[cd,hcz];omega)];rfl
  simp[World.frozen?,hh]
 have hN:Hid (news=rows.drop (j*s)):=ajy;have hW:Hid (W1=w.drew.setCells blk (off+i*s) news):=hW1;have hic:i<=cap:=by omega
 have hjc:j<=cap:=by omega
 clear hW1 SA ajy hlen tR lT hw hb axH;obtain⟨_,_,FG⟩:=FB;go_enter FG,uA ρ;go_wp2_with fail;go_region_law_o (refine step_append_room rfl (.tmp 22) (.tmp 25) (ρ.t 22) rfl (ρ.t 23) i0 s t22 hi0 hz1 blk off i cap (by simp[Act.eval,Act.put]) A (n - j) (cap - j) news (by simp[Act.eval,Act.put]) s1.out PD.out s2.out (by omega) s3.out ?_;rw[←hW.out]);go_wp2;go_ret;refine⟨rfl,?_⟩;rw[←hN.out,←hW.out]
theorem H0 (l:List Value) (o s q:Nat):((l.drop o).take s)[q]?=if q<s then l[o+q]? else none:=by
 rw[bM];split
 ·rw[cr]
 rfl
theorem agz {s n c i j:Nat} {cur:List Value} {zl:List Value} (hb:cur.length=c*s) (hc:n<=c) (QX:i<=j) (hj:j<=n) (hz:zl.length=(n - (i+(n - j)))*s): (Go.Pv.putCells (Go.Pv.putCells cur (i*s) (((cur.take (n*s))).drop (j*s))) ((i+(n - j))*s) zl).length=cur.length/\ ∀ k,k<i+(n - j)->((Go.Pv.putCells (Go.Pv.putCells cur (i*s) (((cur.take (n*s))).drop (j*s))) ((i+(n - j))*s) zl).drop (k*s)).take s=(cur.drop ((if k<i then k else k+(j - i))*s)).take s:=by
 have hns:n*s<=c*s:=aC s hc;have hjs:j*s<=n*s:=aC s hj;have lT:i*s+(n - j)*s<=n*s:=by rw[←bc];exact aC s (by omega)
 have Va:((cur.take (n*s)).drop (j*s)).length=(n - j)*s:=by rw[aX,aH,jv];omega
 have he:(i+(n - j))*s+(n - (i+(n - j)))*s=n*s:=by rw[←bc];congr 1;omega
 have hp1:i*s+((cur.take (n*s)).drop (j*s)).length<=cur.length:=by rw[Va];omega
 have hL1:=yT cur ((cur.take (n*s)).drop (j*s)) (i*s) hp1;have hp2:(i+(n - j))*s+zl.length<=(Go.Pv.putCells cur (i*s) ((cur.take (n*s)).drop (j*s))).length:=by rw[hL1,hz];omega
 refine⟨by rw[yT _ _ _ hp2,hL1],λk hk=>?_⟩;have XE:(k+1)*s<=(i+(n - j))*s:=aC s hk;rw[bc,cH] at XE;apply cU;intro q;rw[H0,H0];by_cases hq:q<s
 ·rw[ay hq,ay hq,yS _ _ _ _ hp2,ay (by omega),yS _ _ _ _ hp1];by_cases hki:k<i
  ·have h1:(k+1)*s<=i*s:=aC s hki;rw[bc,cH] at h1;rw[ay hki,ay (by omega)]
  have h1:i*s<=k*s:=aC s (by omega);rw[ar hki,ar (by omega),Va];have h2:(i+(n - j))*s=i*s+(n - j)*s:=bc _ _ _;rw[ay (by omega),cr,bM];have h3:(k+(j - i))*s=k*s+(j*s - i*s):=(by rw[bc,jv]);have h4:i*s<=j*s:=aC s QX;have h5:(n - j)*s=n*s - j*s:=jv _ _ _;rw[ay (by omega)];congr 1;omega
 rw[ar hq,ar hq]
structure axI (P:Program) (ρ:Ren) (s:Nat) (zs:Array Value) (i0:TypeInfo):Prop where
 mixed:P.follows .mixedOrders=true
 FB:Bears P (ρ.f 45) (SlBodyN.n45 ρ)
 t0:P.underlying (ρ.t 0)=some (TypeDesc.tuple #[])
 a0:∀ w,(Go.isAgg (ρ.t 0)).run P w=.ok false w
 z0:∀ w,(Go.sizeOf (ρ.t 0)).run P w=.ok 1 w
 v0:∀ w,(zeroValue (ρ.t 0)).run P w=.ok (Value.tuple #[]) w
 t3:P.underlying (ρ.t 3)=some (TypeDesc.int IntKind.i64)
 a3:∀ w,(Go.isAgg (ρ.t 3)).run P w=.ok false w
 z3:∀ w,(Go.sizeOf (ρ.t 3)).run P w=.ok 1 w
 v3:∀ w,(zeroValue (ρ.t 3)).run P w=.ok (Value.int IntKind.i64 0) w
 t4:P.underlying (ρ.t 4)=some (TypeDesc.bool)
 a4:∀ w,(Go.isAgg (ρ.t 4)).run P w=.ok false w
 z4:∀ w,(Go.sizeOf (ρ.t 4)).run P w=.ok 1 w
 v4:∀ w,(zeroValue (ρ.t 4)).run P w=.ok (Value.bool false) w
 t22:P.underlying (ρ.t 22)=some (TypeDesc.slice (ρ.t 23))
 a22:∀ w,(Go.isAgg (ρ.t 22)).run P w=.ok false w
 z22:∀ w,(Go.sizeOf (ρ.t 22)).run P w=.ok 1 w
 v22:∀ w,(zeroValue (ρ.t 22)).run P w=.ok (Value.slice none 0 0) w
 z23:∀ w,(Go.sizeOf (ρ.t 23)).run P w=.ok s w
 v23:∀ w,(zeroValue (ρ.t 23)).run P w=.ok (.agg zs) w
 hz:zs.size=s
 hzo:zs.toList.all (λu=>u.oneCell')=true
 hi0:P.info? (ρ.t 23)=some i0
 hz1:i0.size=s
variable {w:World} {H:Nat->Value} {A:Nat->Prop}
theorem alX {Γ:Gl} {B:Nat->Prop} {t:Ty} {m:Md} {xs:List t.I} {i j:Int} {σ:Nat->Option Nat} {fe:List Value} (lT:In Γ B H w σ [.tv ⟨.sl t,m,xs⟩,.tv ⟨.int .i64,.k,i⟩,.tv ⟨.int .i64,.k,j⟩] fe):
  ∃ v,fe=[v,.int .i64 i,.int .i64 j]/\M w (Av σ B) H (.sl t) m xs [v] (λg=>σ g=some 0) []:=by
 obtain⟨v,hv,cs,h1,h2⟩:=lT.ok 0 _ rfl
 obtain⟨v1,hv1,cs1,h3,h4⟩:=lT.ok 1 _ rfl
 obtain⟨v2,hv2,cs2,h5,h6⟩:=lT.ok 2 _ rfl
 have xb:cs=[v]:=by simpa[a6,isAgg] using h1
 subst xb
 refine⟨v,?_,h2⟩
 simp only[M] at h4 h6
 have e1:=lg h3 h4.2
 have e2:=lg h5 h6.2
 subst e1 e2
 have hl:=lT.len
 match fe,hl,hv,hv1,hv2 with
 |[a,b,c],_,hv,hv1,hv2=>simp at hv hv1 hv2;rw[hv,hv1,hv2]
theorem agA {Γ:Gl} {t:Ty} {zs:Array Value} {i0:TypeInfo} (L:axI P ρ t.size zs i0) (e:TypeId) (me:Md) (aDN:uI t me=true):Sound Γ P (ρ.f 45) (c9 [.v (.sl t) (.o e none me),.v (.int .i64) .k,.v (.int .i64) .k]
  λx kf=>bif decide (0<=x.2.1)&&(decide (x.2.1<=x.2.2.1)&&decide (x.2.2.1<=(length x.1:Int))) then kf ⟨[⟨.sl t,.o e none me,List.take (toNat x.2.1) x.1++List.drop (toNat x.2.2.1) x.1⟩],[]⟩ else none):=by
 refine⟨?_,λal=>?_⟩
 rotate_left
 ·unfold c9
  split
  ·exact ja.bif _ (ja.pure _) ja.none
  ·exact ja.none
 intro args kf ret w σ fe H B hr lT
 unfold c9 at hr
 split at hr
 case h_2=>cases hr
 rename_i x hx
 have:=uK _ args hx
 subst this
 rcases x with⟨xs,(ii:Int),(jj:Int),u⟩
 simp only[jD] at lT hr
 cases hc0:(decide (0<=ii)&&(decide (ii<=jj)&&decide (jj<=(length xs:Int)))) with
 |false=>rw[hc0] at hr;cases hr
 |true=>
 rw[hc0] at hr
 simp only[ab] at hr
 simp only[ai,au] at hc0
 obtain⟨hi0,aEe,hj0⟩:=hc0
 obtain⟨i,rfl⟩:∃ i:Nat,ii=(i:Int):=⟨ii.toNat,by omega⟩
 obtain⟨j,rfl⟩:∃ j:Nat,jj=(j:Int):=⟨jj.toNat,by omega⟩
 have QX:i<=j:=by omega
 have hj:j<=length xs:=by omega
 simp only[aj] at hr
 obtain⟨v,rfl,h2⟩:=alX lT
 have hM0:=h2
 simp only[M] at h2
 rcases h2 with⟨hn,_⟩ |⟨hk,_⟩ |⟨T,ap5,me',X,c,e1,e2,hc,ht,h⟩
 ·simp at hn
 ·simp[Md.eY] at hk
 injection e1 with e1 Vm LK
 subst e1 Vm LK
 injection e2 with e2 _
 subst e2
 have hen:(callFunc (ρ.f 45) [Value.slice X (length xs) c,.int .i64 i,.int .i64 j].toArray).run P w=.ok (.enter (ρ.f 45) [Value.slice X (length xs) c,.int .i64 i,.int .i64 j].toArray) w:=L.FB.enters rfl _ w
 have hmx:maxLen=9223372036854775807:=rfl
 by_cases heq:i=j
 ·subst heq
  have hcm:c<=9223372036854775807/\(X=none->c=0):=by
   rcases h with⟨_,h⟩ |⟨g,cur,τ,rfl,hg,hw,hs,hm,Rw⟩
   ·exact⟨by omega,λ_=>h⟩
   ·exact⟨by omega,λhx=>by cases hx⟩
  refine .inl ⟨hen,(ajw L.mixed L.FB L.t0 L.a0 L.z0 L.v0 L.t3 L.a3 L.z3 L.v3 L.t4 L.a4 L.z4 L.v4 L.t22 L.a22 L.z22 L.v22 L.z23 X c (length xs) i w hc hcm.1 hj hcm.2).mono λen w' he=>?_⟩
  obtain⟨rfl,rfl⟩:=he
  refine⟨_,hr,⟨rfl,rfl,rfl,aM _,λ_ _ _=>rfl⟩,σ,[.slice X (length xs) c],rfl,rfl,λg q hg=>⟨.inr ⟨q,hg⟩,(lT.lt g q hg).2⟩,λq b hb=>?_,λd hd=>(by cases hd)⟩
  cases q with
  |succ q=>simp at hb
  |zero=>
   simp only[aD,ah] at hb
   subst hb
   refine⟨_,[.slice X (length xs) c],rfl,by simp[a6,isAgg],?_⟩
   have e3:List.take i xs++List.drop i xs=xs:=dS i xs
   rw[e3]
   exact hM0
 ·have gC:i<j:=by omega
  rcases h with⟨hx0,_⟩ |⟨g,cur,τ,rfl,hg,hw,hs,hm,Rw⟩
  ·rw[hx0] at hj;simp at hj;omega
  obtain⟨n,hn⟩:∃ n,n=length xs:=⟨_,rfl⟩
  rw[←hn] at hj hc hen ⊢
  have hns:n*t.size<=c*t.size:=aC _ hc
  have hrl:(cur.toList.take (n*t.size)).length=n*t.size:=by rw[aH,bQ];omega
  have hro:∀ u∈cur.toList.take (n*t.size),u.oneCell'=true:=LL n λk hk u hu=>(rB t (Rw k (by omega))).2 u hu
  have axJ:∀ u∈zs,u.oneCell'=true:=λu hu=>aJ.1 L.hzo u (by simpa using hu)
  refine .inl ⟨hen,(ajx L.mixed L.FB L.t0 L.a0 L.z0 L.v0 L.t3 L.a3 L.z3 L.v3 L.t4 L.a4 L.z4 L.v4 L.t22 L.a22 L.z22 L.v22 L.z23 L.v23 L.hz axJ i0 L.hi0 L.hz1 g 0 c n i j (cur.toList.take (n*t.size)) w hrl hro cur e hw (by omega) (by rw[dJ]) hc (by omega) gC hj).mono λen w' he=>?_⟩
  obtain⟨rfl,hw'⟩:=he
  simp only[aW] at hw'
  obtain⟨zl,hzl⟩:∃ zl,zl=(Builtin.zeroCells zs (n - (i+(n - j)))).toList:=⟨_,rfl⟩
  have aCP:zl.length=(n - (i+(n - j)))*t.size:=by rw[hzl];simp[Builtin.zeroCells,L.hz]
  have hzo:∀ u∈zl,u.oneCell'=true:=by
   intro u hu
   rw[hzl] at hu
   simp only[Builtin.zeroCells,ng,cg] at hu
   obtain⟨k,hk,rfl⟩:=hu
   have hk:k<(n - (i+(n - j)))*zs.size:=by simpa using hk
   have h0:0<zs.size:=Nat.pos_of_ne_zero λe=>by rw[e] at hk;omega
   have h1:=Nat.mod_lt k h0
   rw[vW zs _ h1]
   exact axJ _ (Array.getElem_mem h1)
  rw[←hzl] at hw'
  obtain⟨d1,d2⟩:=agz (s:=t.size) (n:=n) (c:=c) (i:=i) (j:=j) (cur:=cur.toList) (zl:=zl) (by simpa using hs) hc QX hj aCP
  have hjs:j*t.size<=n*t.size:=aC _ hj
  have aEf:i*t.size+(n - j)*t.size<=n*t.size:=by rw[←bc];exact aC _ (by omega)
  have he2:(i+(n - j))*t.size+(n - (i+(n - j)))*t.size=n*t.size:=by rw[←bc];congr 1;omega
  have hnl:((cur.toList.take (n*t.size)).drop (j*t.size)).length=(n - j)*t.size:=by rw[aX,hrl,jv]
  have hp1:i*t.size+((cur.toList.take (n*t.size)).drop (j*t.size)).length<=cur.size:=by rw[hnl];omega
  have hL1:=yT cur.toList ((cur.toList.take (n*t.size)).drop (j*t.size)) (i*t.size) (by simpa using hp1)
  rw[mJ (w:=w.drew) (g:=g) (t:=e) (cur:=cur) hw hp1 (λu hu=>hro u (dI hu)),
   mJ (g:=g) (t:=e) (cur:=(Go.Pv.putCells cur.toList (i*t.size) ((cur.toList.take (n*t.size)).drop (j*t.size))).toArray) (ik w.drew g cur _ e (0,0) hw) (by rw[cd,hL1,aCP,bQ];omega) hzo,setRow_setRow] at hw'
  subst hw'
  obtain⟨v8,ajz⟩:∃ v8,v8=Go.Pv.putCells (Go.Pv.putCells cur.toList (i*t.size) ((cur.toList.take (n*t.size)).drop (j*t.size))) ((i+(n - j))*t.size) zl:=⟨_,rfl⟩
  simp only[b5] at d1 d2 ⊢
  rw[←ajz] at d1 d2 ⊢
  have rY:(w.drew.setRow g v8.toArray).heap[g]?=some (.cells v8.toArray e (0,0)):=ik w.drew g cur _ e (0,0) hw
  have F7:∀ g',g'≠g->(w.drew.setRow g v8.toArray).heap[g']?=w.heap[g']?:=λg' h=>kX w.drew g g' _ h
  have alY:(w.drew.setRow g v8.toArray).heap.size=w.heap.size:=jQ w.drew g _
  let nF:Nat->Option Nat:=λg'=>if σ g'=some 0 then some 0 else none
  have hσ:∀ g' q,nF g'=some q↔σ g'=some 0/\q=0:=λg' q=>by
   simp only[nF]
   split
   ·rename_i h;exact⟨λe=>⟨h,by injection e with e;exact e.symm⟩,λe=>by rw[e.2]⟩
   ·rename_i h;exact⟨λe=>(by cases e),λe=>absurd e.1 h⟩
  refine⟨_,hr,⟨rfl,rfl,rfl,by rw[alY];exact aM _,λg' _ hn'=>F7 g' λe=>hn' ⟨0,by rw[e];exact hg⟩⟩,nF,[.slice (some ⟨g,0,none⟩) (i+(n - j)) c],rfl,rfl,λg' q dH=>?_,λq b hb=>?_,λd hd=>(by cases hd)⟩
  ·have h0:=((hσ g' q).1 dH).1
   exact⟨.inr ⟨0,h0⟩,by rw[alY];exact(lT.lt g' 0 h0).2⟩
  ·cases q with
   |succ q=>simp at hb
   |zero=>
    simp only[aD,ah] at hb
    subst hb
    refine⟨_,[.slice (some ⟨g,0,none⟩) (i+(n - j)) c],rfl,by simp[a6,isAgg],?_⟩
    have hyl:(List.take i xs++List.drop j xs).length=i+(n - j):=by rw[ax,aH,aX,←hn];omega
    simp only[M]
    refine .inr (.inr ⟨e,none,me,some ⟨g,0,none⟩,c,rfl,by rw[hyl],by rw[hyl];omega,λh hh=>(by cases hh),.inr ⟨g,v8.toArray,λg'=>if τ g'<i then τ g' else τ g' - (j - i),rfl,(hσ g 0).2 ⟨hg,rfl⟩,rY,by rw[cd,d1,bQ];exact hs,hm,λk hk=>?_⟩⟩)
    have uH:k<i+(n - j):=by rw[←hyl];exact hk
    have wu:=d2 k uH
    simp only[b5]
    rw[wu]
    have fZ:cN w (w.drew.setRow g v8.toArray) (Av σ B) (Av nF B):=⟨λg' hn' _=>F7 g' λe=>hn' (.inl ⟨0,by rw[e];exact hg⟩),λg' _ dH=>dH.imp (λ⟨q,hq⟩=>⟨0,((hσ g' q).1 hq).1⟩) id⟩
    by_cases hki:k<i
    ·rw[ay hki]
     have hx:(List.take i xs++List.drop j xs)[k]'hk=xs[k]'(by omega):=by
      rw[cI (by rw[aH];omega),gw]
     rw[hx]
     refine b8 fZ t (λg' dH _=>F7 g' dH.2.1) (λg' dH _=>⟨(hσ g' 0).2 ⟨dH.1,rfl⟩,dH.2.1,?_⟩) (λp hp=>by simp[sub] at hp) (Rw k (by omega))
     rw[dH.2.2,ay hki]
    ·rw[ar hki]
     have hx:(List.take i xs++List.drop j xs)[k]'hk=xs[k+(j - i)]'(by omega):=by
      rw[dx (by rw[aH];omega),lW]
      congr 1
      rw[aH]
      omega
     rw[hx]
     refine b8 fZ t (λg' dH _=>F7 g' dH.2.1) (λg' dH _=>⟨(hσ g' 0).2 ⟨dH.1,rfl⟩,dH.2.1,?_⟩) (λp hp=>by simp[sub] at hp) (Rw (k+(j - i)) (by omega))
     rw[dH.2.2,ar (by omega)]
     omega
end Go.Pv
