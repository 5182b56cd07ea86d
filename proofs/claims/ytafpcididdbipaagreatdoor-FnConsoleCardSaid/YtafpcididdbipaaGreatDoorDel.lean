/- Functions of the library (Del): what is told of them holds. -/
import Derived.Test.YtafpcididdbipaaGreatDoorPrim
import Derived.Shelf.SlBodiesN
import Derived.Shelf.SlGeneric
import Derived.Shelf.RegionOpenPlain
import Derived.WalkKit
import Derived.Deep.LoopGhost
import Derived.Deep.RegionLaw
import Derived.Lib.Walk
import Derived.Sort.WalkB12
import Derived.Lib.SliceRun
import Derived.Lib.SlicesDelete
set_option linter.unusedSimpArgs false
set_option linter.unusedVariables false
namespace Go.Pv
open List Int IntKind
open Go.Shelf Go.RowKit Go.Proofs
variable {P:Program} {ρ:Ren}
theorem TK (w:World) (t e ty:TypeId) (z:Value) (ht:P.underlying t=some (.slice e)) (hv:∀ w,(zeroValue e).run P w=.ok z w) (h1:∀ u∈z.cells,u.oneCell'=true) (b o n c:Nat) (hn:0<n) (hc:∀ j,j<n*z.cells.size->(w.cell? ⟨b,o+j,none⟩).isSome=true) (hf:∀ j,j<n*z.cells.size->w.frozen? ⟨b,o+j,none⟩=false): (Builtin.clear_ #[t] ty #[.slice (some ⟨b,o,none⟩) n c]).run P w=.ok (.tuple #[]) (w.setCells b o (Builtin.zeroCells z.cells n).toList):=by
 have hl:(Builtin.zeroCells z.cells n).toList.length=n*z.cells.size:=by simp[Builtin.zeroCells]
 have h2:∀ v∈(Builtin.zeroCells z.cells n).toList,v.oneCell'=true:=by
  intro v hv';simp only[Builtin.zeroCells,Array.toList_map,List.mem_map] at hv';obtain⟨i,hi,rfl⟩:=hv';have hi:i<n*z.cells.size:=by simpa using hi
  have hs:0<z.cells.size:=Nat.pos_of_ne_zero λe=>(by rw[e] at hi;omega);have yB:=Nat.mod_lt i hs;rw[getElem!_pos z.cells _ yB];exact h1 _ (Array.getElem_mem yB)
 have cP:=run_storeCells_cells (P:=P) b o (Builtin.zeroCells z.cells n).toList 0 w (by rw[hl];simpa using hc) (by rw[hl];simpa using hf) h2;simp only[Nat.add_zero] at cP;obtain⟨m,rfl⟩:∃ m,n=m+1:=⟨n - 1,by omega⟩;simp[Builtin.clear_,run_underlying ht,hv,cP]
set_option maxHeartbeats 4000000 in
set_option maxRecDepth 1000000 in
theorem aav (mixed:P.follows .mixedOrders=true) (FB:Bears P (ρ.f 45) (SlBodyN.n45 ρ)) (t0:P.underlying (ρ.t 0)=some (TypeDesc.tuple #[])) (a0:∀ w,(Go.isAgg (ρ.t 0)).run P w=.ok false w) (z0:∀ w,(Go.sizeOf (ρ.t 0)).run P w=.ok 1 w) (v0:∀ w,(zeroValue (ρ.t 0)).run P w=.ok (Value.tuple #[]) w) (t3:P.underlying (ρ.t 3)=some (TypeDesc.int IntKind.i64)) (a3:∀ w,(Go.isAgg (ρ.t 3)).run P w=.ok false w) (z3:∀ w,(Go.sizeOf (ρ.t 3)).run P w=.ok 1 w) (v3:∀ w,(zeroValue (ρ.t 3)).run P w=.ok (Value.int IntKind.i64 0) w) (t4:P.underlying (ρ.t 4)=some (TypeDesc.bool)) (a4:∀ w,(Go.isAgg (ρ.t 4)).run P w=.ok false w) (z4:∀ w,(Go.sizeOf (ρ.t 4)).run P w=.ok 1 w) (v4:∀ w,(zeroValue (ρ.t 4)).run P w=.ok (Value.bool false) w) (t22:P.underlying (ρ.t 22)=some (TypeDesc.slice (ρ.t 23))) (a22:∀ w,(Go.isAgg (ρ.t 22)).run P w=.ok false w) (z22:∀ w,(Go.sizeOf (ρ.t 22)).run P w=.ok 1 w) (v22:∀ w,(zeroValue (ρ.t 22)).run P w=.ok (Value.slice none 0 0) w) {s:Nat} (z23:∀ w,(Go.sizeOf (ρ.t 23)).run P w=.ok s w) (X:Option Addr) (cap n i:Nat) (w:World) (afl:n<=cap) (hm:cap<=9223372036854775807) (hi:i<=n) (hX:X=none->cap=0): Calls P (ρ.f 45) #[.slice X n cap,.int .i64 i,.int .i64 i] w λe w'=>e=.returned (.slice X n cap)/\w'=w:=by
 obtain⟨_,_,FG⟩:=FB;cases X with
 |none=>obtain rfl:=hX rfl;obtain rfl:n=0:=(by omega);obtain rfl:i=0:=(by omega);go_enter FG,SlBodyN.n45_ntmps ρ;go_wp2;all_goals (go_ret;exact⟨rfl,rfl⟩)
 |some A=>go_enter FG,SlBodyN.n45_ntmps ρ;go_wp2;all_goals (go_ret;exact⟨rfl,rfl⟩)
set_option maxHeartbeats 4000000 in
set_option maxRecDepth 1000000 in
theorem aaw (mixed:P.follows .mixedOrders=true) (FB:Bears P (ρ.f 45) (SlBodyN.n45 ρ)) (t0:P.underlying (ρ.t 0)=some (TypeDesc.tuple #[])) (a0:∀ w,(Go.isAgg (ρ.t 0)).run P w=.ok false w) (z0:∀ w,(Go.sizeOf (ρ.t 0)).run P w=.ok 1 w) (v0:∀ w,(zeroValue (ρ.t 0)).run P w=.ok (Value.tuple #[]) w) (t3:P.underlying (ρ.t 3)=some (TypeDesc.int IntKind.i64)) (a3:∀ w,(Go.isAgg (ρ.t 3)).run P w=.ok false w) (z3:∀ w,(Go.sizeOf (ρ.t 3)).run P w=.ok 1 w) (v3:∀ w,(zeroValue (ρ.t 3)).run P w=.ok (Value.int IntKind.i64 0) w) (t4:P.underlying (ρ.t 4)=some (TypeDesc.bool)) (a4:∀ w,(Go.isAgg (ρ.t 4)).run P w=.ok false w) (z4:∀ w,(Go.sizeOf (ρ.t 4)).run P w=.ok 1 w) (v4:∀ w,(zeroValue (ρ.t 4)).run P w=.ok (Value.bool false) w) (t22:P.underlying (ρ.t 22)=some (TypeDesc.slice (ρ.t 23))) (a22:∀ w,(Go.isAgg (ρ.t 22)).run P w=.ok false w) (z22:∀ w,(Go.sizeOf (ρ.t 22)).run P w=.ok 1 w) (v22:∀ w,(zeroValue (ρ.t 22)).run P w=.ok (Value.slice none 0 0) w) {s:Nat} (z23:∀ w,(Go.sizeOf (ρ.t 23)).run P w=.ok s w) {zs:Array Value} (v23:∀ w,(zeroValue (ρ.t 23)).run P w=.ok (.agg zs) w) (hz:zs.size=s) (hzo:∀ u∈zs,u.oneCell'=true) (i0:TypeInfo) (WG:P.info? (ρ.t 23)=some i0) (Wt:i0.size=s) (Q3 off cap n i j:Nat) (rows:List Value) (w:World) (hrl:rows.length=n*s) (hro:∀ u∈rows,u.oneCell'=true) (cur:Array Value) (T:TypeId) (hw:w.heap[Q3]?=some (.cells cur T (0,0))) (hb:off+n*s<=cur.size) (ank:rows=(cur.toList.drop off).take (n*s)) (afl:n<=cap) (hm:cap<=9223372036854775807) (Ev:i<j) (hj:j<=n): Calls P (ρ.f 45) #[.slice (some ⟨Q3,off,none⟩) n cap,.int .i64 i,.int .i64 j] w λe w'=>e=.returned (.slice (some ⟨Q3,off,none⟩) (i+(n - j)) cap)/\ w'=(w.drew.setCells Q3 (off+i*s) (rows.drop (j*s))).setCells Q3 (off+(i+(n - j))*s) (Builtin.zeroCells zs (n - (i+(n - j)))).toList:=by
 obtain⟨news,aax⟩:∃ news,news=rows.drop (j*s):=⟨_,rfl⟩;have JG:∀ k u,rows[k]?=some u->w.cell? ⟨Q3,off+k,none⟩=some u/\w.frozen? ⟨Q3,off+k,none⟩=false:=λk u hu=>by have hk:k<n*s:=(by rw[←hrl];exact(List.getElem?_eq_some_iff.1 hu).1);rw[ank,List.getElem?_take,if_pos hk,List.getElem?_drop,Array.getElem?_toList] at hu;exact⟨by simp only[World.cell?,hw];exact hu,by simp[World.frozen?,hw]⟩
 have hjn:j*s<=n*s:=Nat.mul_le_mul_right s hj;have hlen:news.length=(n - j)*s:=by rw[aax,List.length_drop,hrl,Nat.sub_mul]
 obtain⟨A,hA,Ha⟩:∃ A:Addr,(if cap=j then(some ⟨Q3,off,none⟩:Option Addr) else some ⟨Q3,off+j*s,none⟩)=some A/\Hid (∀ t u,news[t]?=some u->w.drew.cell? (A.add t)=some u):=by
  by_cases h:cap=j
  ·refine⟨⟨Q3,off,none⟩,by simp[h],λt u hu=>?_⟩;have h0:news.length=0:=(by rw[hlen,show n - j=0 by omega,Nat.zero_mul]);rw[List.length_eq_zero_iff.1 h0] at hu;simp at hu
  refine⟨⟨Q3,off+j*s,none⟩,by simp[h],λt u hu=>?_⟩;rw[aax,List.getElem?_drop] at hu;rw[Addr.add_lit,show off+j*s+t=off+(j*s+t) by omega];exact(JG _ u hu).1
 have s1:Hid (news.length=(n - j)*s):=hlen;have s2:Hid (∀ u∈news,u.oneCell'=true):=λu hu=>hro u (by rw[aax] at hu;exact List.mem_of_mem_drop hu);have lP:∀ k,k<n*s->(w.cell? ⟨Q3,off+k,none⟩).isSome=true/\w.frozen? ⟨Q3,off+k,none⟩=false:=λk hk=>by have h1:rows[k]?=some (rows[k]'(by omega)):=List.getElem?_eq_getElem (by omega);obtain⟨h2,h3⟩:=JG k _ h1;rw[h2];exact⟨rfl,h3⟩
 have gl:i*s+(n - j)*s<=n*s:=by rw[←Nat.add_mul];exact Nat.mul_le_mul_right s (by omega)
 have s3:Hid (∀ t,t<news.length->(w.drew.cell? ⟨Q3,off+i*s+t,none⟩).isSome=true/\w.drew.frozen? ⟨Q3,off+i*s+t,none⟩=false):=λt ht=>by rw[hlen] at ht;rw[Nat.add_assoc];exact lP (i*s+t) (by omega)
 obtain⟨W1,hW1⟩:∃ W1,W1=w.drew.setCells Q3 (off+i*s) news:=⟨_,rfl⟩;have rX:∀ ty,(Builtin.clear_ #[ρ.t 22] ty #[.slice (some ⟨Q3,off+(i+(n - j))*s,none⟩) (n - (i+(n - j))) (cap - (i+(n - j)))]).run P W1=.ok (.tuple #[]) (W1.setCells Q3 (off+(i+(n - j))*s) (Builtin.zeroCells zs (n - (i+(n - j)))).toList):=by
  intro ty;have hnj:0<n - (i+(n - j)):=by omega
  have pL:∀ k,k<(n - (i+(n - j)))*s->(i+(n - j))*s+k<n*s:=λk hk=>(by have e:(i+(n - j))*s+(n - (i+(n - j)))*s=n*s:=(by rw[←Nat.add_mul];congr 1;omega);omega);have hcb:off+i*s+news.length<=cur.size:=(by rw[hlen];omega);have CL:=hZ (w:=w.drew) (g:=Q3) (o:=off+i*s) (t:=T) (cur:=cur) (vs:=news) hw hcb s2.out;have hh:W1.heap[Q3]?=some (.cells (Go.Pv.putCells cur.toList (off+i*s) news).toArray T (0,0)):=(by rw[hW1,CL];exact setRow_heap w.drew Q3 cur _ T (0,0) hw);have hcz:(Go.Pv.putCells cur.toList (off+i*s) news).length=cur.size:=(by rw[qo _ _ _ (by simpa using hcb)];simp);refine TK W1 _ _ ty (.agg zs) t22 v23 hzo Q3 _ _ _ hnj (λk hk=>?_) (λk hk=>?_)
  ·have mc:k<(n - (i+(n - j)))*s:=(by rw[←hz];exact hk);have:=pL k mc;simp only[World.cell?,hh];rw[Array.getElem?_eq_getElem (by rw[List.size_toArray,hcz];omega)];rfl
  simp[World.frozen?,hh]
 have hN:Hid (news=rows.drop (j*s)):=aax;have hW:Hid (W1=w.drew.setCells Q3 (off+i*s) news):=hW1;have hic:i<=cap:=by omega
 have hjc:j<=cap:=by omega
 clear hW1 JG aax hlen lP gl hw hb ank;obtain⟨_,_,FG⟩:=FB;go_enter FG,SlBodyN.n45_ntmps ρ;go_wp2_with fail;go_region_law_o (refine step_append_room rfl (.tmp 22) (.tmp 25) (ρ.t 22) rfl (ρ.t 23) i0 s t22 WG Wt Q3 off i cap (by simp[Act.eval,Act.put]) A (n - j) (cap - j) news (by simp[Act.eval,Act.put]) s1.out Ha.out s2.out (by omega) s3.out ?_;rw[←hW.out]);go_wp2;go_ret;refine⟨rfl,?_⟩;rw[←hN.out,←hW.out]
theorem Ad (l:List Value) (o s q:Nat):((l.drop o).take s)[q]?=if q<s then l[o+q]? else none:=by
 rw[List.getElem?_take];split
 ·rw[List.getElem?_drop]
 rfl
theorem Xw {s n c i j:Nat} {cur:List Value} {zl:List Value} (hb:cur.length=c*s) (hc:n<=c) (Ev:i<=j) (hj:j<=n) (hz:zl.length=(n - (i+(n - j)))*s): (Go.Pv.putCells (Go.Pv.putCells cur (i*s) (((cur.take (n*s))).drop (j*s))) ((i+(n - j))*s) zl).length=cur.length/\ ∀ k,k<i+(n - j)->((Go.Pv.putCells (Go.Pv.putCells cur (i*s) (((cur.take (n*s))).drop (j*s))) ((i+(n - j))*s) zl).drop (k*s)).take s=(cur.drop ((if k<i then k else k+(j - i))*s)).take s:=by
 have hns:n*s<=c*s:=Nat.mul_le_mul_right s hc;have hjs:j*s<=n*s:=Nat.mul_le_mul_right s hj;have gl:i*s+(n - j)*s<=n*s:=by rw[←Nat.add_mul];exact Nat.mul_le_mul_right s (by omega)
 have OA:((cur.take (n*s)).drop (j*s)).length=(n - j)*s:=by rw[List.length_drop,List.length_take,Nat.sub_mul];omega
 have he:(i+(n - j))*s+(n - (i+(n - j)))*s=n*s:=by rw[←Nat.add_mul];congr 1;omega
 have YT:i*s+((cur.take (n*s)).drop (j*s)).length<=cur.length:=by rw[OA];omega
 have hL1:=qo cur ((cur.take (n*s)).drop (j*s)) (i*s) YT;have hp2:(i+(n - j))*s+zl.length<=(Go.Pv.putCells cur (i*s) ((cur.take (n*s)).drop (j*s))).length:=by rw[hL1,hz];omega
 refine⟨by rw[qo _ _ _ hp2,hL1],λk hk=>?_⟩;have Oc:(k+1)*s<=(i+(n - j))*s:=Nat.mul_le_mul_right s hk;rw[Nat.add_mul,Nat.one_mul] at Oc;apply List.ext_getElem?;intro q;rw[Ad,Ad];by_cases hq:q<s
 ·rw[if_pos hq,if_pos hq,qn _ _ _ _ hp2,if_pos (by omega),qn _ _ _ _ YT];by_cases hki:k<i
  ·have h1:(k+1)*s<=i*s:=Nat.mul_le_mul_right s hki;rw[Nat.add_mul,Nat.one_mul] at h1;rw[if_pos hki,if_pos (by omega)]
  have h1:i*s<=k*s:=Nat.mul_le_mul_right s (by omega);rw[if_neg hki,if_neg (by omega),OA];have h2:(i+(n - j))*s=i*s+(n - j)*s:=Nat.add_mul _ _ _;rw[if_pos (by omega),List.getElem?_drop,List.getElem?_take];have h3:(k+(j - i))*s=k*s+(j*s - i*s):=(by rw[Nat.add_mul,Nat.sub_mul]);have h4:i*s<=j*s:=Nat.mul_le_mul_right s Ev;have h5:(n - j)*s=n*s - j*s:=Nat.sub_mul _ _ _;rw[if_pos (by omega)];congr 1;omega
 rw[if_neg hq,if_neg hq]
structure anl (P:Program) (ρ:Ren) (s:Nat) (zs:Array Value) (i0:TypeInfo):Prop where
 mixed:P.follows .mixedOrders=true
 FB:Bears P (ρ.f 45) (SlBodyN.n45 ρ)
 t0:P.underlying (ρ.t 0)=some (TypeDesc.tuple #[])
 a0:∀ w,(Go.isAgg (ρ.t 0)).run P w=.ok false w
 z0:∀ w,(Go.sizeOf (ρ.t 0)).run P w=.ok 1 w
 v0:∀ w,(zeroValue (ρ.t 0)).run P w=.ok (Value.tuple #[]) w
 t3:P.underlying (ρ.t 3)=some (TypeDesc.int IntKind.i64)
 a3:∀ w,(Go.isAgg (ρ.t 3)).run P w=.ok false w
 z3:∀ w,(Go.sizeOf (ρ.t 3)).run P w=.ok 1 w
 v3:∀ w,(zeroValue (ρ.t 3)).run P w=.ok (Value.int IntKind.i64 0) w
 t4:P.underlying (ρ.t 4)=some (TypeDesc.bool)
 a4:∀ w,(Go.isAgg (ρ.t 4)).run P w=.ok false w
 z4:∀ w,(Go.sizeOf (ρ.t 4)).run P w=.ok 1 w
 v4:∀ w,(zeroValue (ρ.t 4)).run P w=.ok (Value.bool false) w
 t22:P.underlying (ρ.t 22)=some (TypeDesc.slice (ρ.t 23))
 a22:∀ w,(Go.isAgg (ρ.t 22)).run P w=.ok false w
 z22:∀ w,(Go.sizeOf (ρ.t 22)).run P w=.ok 1 w
 v22:∀ w,(zeroValue (ρ.t 22)).run P w=.ok (Value.slice none 0 0) w
 z23:∀ w,(Go.sizeOf (ρ.t 23)).run P w=.ok s w
 v23:∀ w,(zeroValue (ρ.t 23)).run P w=.ok (.agg zs) w
 hz:zs.size=s
 hzo:zs.toList.all (λu=>u.oneCell')=true
 WG:P.info? (ρ.t 23)=some i0
 Wt:i0.size=s
variable {w:World} {H:Nat->Value} {A:Nat->Prop}
theorem acU {Γ:Gl} {B:Nat->Prop} {t:Ty} {m:Md} {xs:List t.I} {i j:Int} {σ:Nat->Option Nat} {bT:List Value} (gl:In Γ B H w σ [.tv ⟨.sl t,m,xs⟩,.tv ⟨.int .i64,.k,i⟩,.tv ⟨.int .i64,.k,j⟩] bT):
  ∃ v,bT=[v,.int .i64 i,.int .i64 j]/\M w (Av σ B) H (.sl t) m xs [v] (λg=>σ g=some 0) []:=by
 obtain⟨v,hv,cs,h1,h2⟩:=gl.ok 0 _ rfl
 obtain⟨v1,hv1,cs1,h3,h4⟩:=gl.ok 1 _ rfl
 obtain⟨v2,X5,cs2,h5,h6⟩:=gl.ok 2 _ rfl
 have qk:cs=[v]:=by simpa[ah,isAgg] using h1
 subst qk
 refine⟨v,?_,h2⟩
 simp only[M] at h4 h6
 have e1:=e9 h3 h4.2
 have e2:=e9 h5 h6.2
 subst e1 e2
 have hl:=gl.len
 match bT,hl,hv,hv1,X5 with
 |[a,b,c],_,hv,hv1,X5=>simp at hv hv1 X5;rw[hv,hv1,X5]
theorem Xx {Γ:Gl} {t:Ty} {zs:Array Value} {i0:TypeInfo} (L:anl P ρ t.size zs i0) (e:TypeId) (me:Md) (atA:oa t me=true):Sound Γ P (ρ.f 45) (aV [.v (.sl t) (.o e none me),.v (.int .i64) .k,.v (.int .i64) .k]
  λx kf=>bif decide (0<=x.2.1)&&(decide (x.2.1<=x.2.2.1)&&decide (x.2.2.1<=(length x.1:Int))) then kf ⟨[⟨.sl t,.o e none me,List.take (toNat x.2.1) x.1++List.drop (toNat x.2.2.1) x.1⟩],[]⟩ else none):=by
 refine⟨?_,λal=>?_⟩
 rotate_left
 ·unfold aV
  split
  ·exact dk.bif _ (dk.pure _) dk.none
  ·exact dk.none
 intro args kf ret w σ bT H B hr gl
 unfold aV at hr
 split at hr
 case h_2=>cases hr
 rename_i x hx
 have:=ly _ args hx
 subst this
 rcases x with⟨xs,(ii:Int),(jj:Int),u⟩
 simp only[dF] at gl hr
 cases Ue:(decide (0<=ii)&&(decide (ii<=jj)&&decide (jj<=(length xs:Int)))) with
 |false=>rw[Ue] at hr;cases hr
 |true=>
 rw[Ue] at hr
 simp only[cond_true] at hr
 simp only[Bool.and_eq_true,decide_eq_true_eq] at Ue
 obtain⟨WG,atZ,hj0⟩:=Ue
 obtain⟨i,rfl⟩:∃ i:Nat,ii=(i:Int):=⟨ii.toNat,by omega⟩
 obtain⟨j,rfl⟩:∃ j:Nat,jj=(j:Int):=⟨jj.toNat,by omega⟩
 have Ev:i<=j:=by omega
 have hj:j<=length xs:=by omega
 simp only[toNat_natCast] at hr
 obtain⟨v,rfl,h2⟩:=acU gl
 have Yb:=h2
 simp only[M] at h2
 rcases h2 with⟨hn,_⟩ |⟨hk,_⟩ |⟨T,agJ,me',X,c,e1,e2,hc,ht,h⟩
 ·simp at hn
 ·simp[Md.b5] at hk
 injection e1 with e1 L8 Di
 subst e1 L8 Di
 injection e2 with e2 _
 subst e2
 have hen:(callFunc (ρ.f 45) [Value.slice X (length xs) c,.int .i64 i,.int .i64 j].toArray).run P w=.ok (.enter (ρ.f 45) [Value.slice X (length xs) c,.int .i64 i,.int .i64 j].toArray) w:=L.FB.enters rfl _ w
 have hmx:maxLen=9223372036854775807:=rfl
 by_cases heq:i=j
 ·subst heq
  have hcm:c<=9223372036854775807/\(X=none->c=0):=by
   rcases h with⟨_,h⟩ |⟨g,cur,τ,rfl,hg,hw,hs,hm,I1⟩
   ·exact⟨by omega,λ_=>h⟩
   ·exact⟨by omega,λhx=>by cases hx⟩
  refine .inl ⟨hen,(aav L.mixed L.FB L.t0 L.a0 L.z0 L.v0 L.t3 L.a3 L.z3 L.v3 L.t4 L.a4 L.z4 L.v4 L.t22 L.a22 L.z22 L.v22 L.z23 X c (length xs) i w hc hcm.1 hj hcm.2).mono λen w' he=>?_⟩
  obtain⟨rfl,rfl⟩:=he
  refine⟨_,hr,⟨rfl,rfl,rfl,Nat.le_refl _,λ_ _ _=>rfl⟩,σ,[.slice X (length xs) c],rfl,rfl,λg q hg=>⟨.inr ⟨q,hg⟩,(gl.lt g q hg).2⟩,λq b hb=>?_,λd hd=>(by cases hd)⟩
  cases q with
  |succ q=>simp at hb
  |zero=>
   simp only[List.getElem?_cons_zero,Option.some.injEq] at hb
   subst hb
   refine⟨_,[.slice X (length xs) c],rfl,by simp[ah,isAgg],?_⟩
   have e3:List.take i xs++List.drop i xs=xs:=List.take_append_drop i xs
   rw[e3]
   exact Yb
 ·have du:i<j:=by omega
  rcases h with⟨hx0,_⟩ |⟨g,cur,τ,rfl,hg,hw,hs,hm,I1⟩
  ·rw[hx0] at hj;simp at hj;omega
  obtain⟨n,hn⟩:∃ n,n=length xs:=⟨_,rfl⟩
  rw[←hn] at hj hc hen ⊢
  have hns:n*t.size<=c*t.size:=Nat.mul_le_mul_right _ hc
  have hrl:(cur.toList.take (n*t.size)).length=n*t.size:=by rw[List.length_take,Array.length_toList];omega
  have hro:∀ u∈cur.toList.take (n*t.size),u.oneCell'=true:=Dj n λk hk u hu=>(lQ t (I1 k (by omega))).2 u hu
  have anm:∀ u∈zs,u.oneCell'=true:=λu hu=>List.all_eq_true.1 L.hzo u (by simpa using hu)
  refine .inl ⟨hen,(aaw L.mixed L.FB L.t0 L.a0 L.z0 L.v0 L.t3 L.a3 L.z3 L.v3 L.t4 L.a4 L.z4 L.v4 L.t22 L.a22 L.z22 L.v22 L.z23 L.v23 L.hz anm i0 L.WG L.Wt g 0 c n i j (cur.toList.take (n*t.size)) w hrl hro cur e hw (by omega) (by rw[List.drop_zero]) hc (by omega) du hj).mono λen w' he=>?_⟩
  obtain⟨rfl,Rm⟩:=he
  simp only[Nat.zero_add] at Rm
  obtain⟨zl,hzl⟩:∃ zl,zl=(Builtin.zeroCells zs (n - (i+(n - j)))).toList:=⟨_,rfl⟩
  have asx:zl.length=(n - (i+(n - j)))*t.size:=by rw[hzl];simp[Builtin.zeroCells,L.hz]
  have hzo:∀ u∈zl,u.oneCell'=true:=by
   intro u hu
   rw[hzl] at hu
   simp only[Builtin.zeroCells,Array.toList_map,List.mem_map] at hu
   obtain⟨k,hk,rfl⟩:=hu
   have hk:k<(n - (i+(n - j)))*zs.size:=by simpa using hk
   have h0:0<zs.size:=Nat.pos_of_ne_zero λe=>by rw[e] at hk;omega
   have h1:=Nat.mod_lt k h0
   rw[getElem!_pos zs _ h1]
   exact anm _ (Array.getElem_mem h1)
  rw[←hzl] at Rm
  obtain⟨d1,d2⟩:=Xw (s:=t.size) (n:=n) (c:=c) (i:=i) (j:=j) (cur:=cur.toList) (zl:=zl) (by simpa using hs) hc Ev hj asx
  have hjs:j*t.size<=n*t.size:=Nat.mul_le_mul_right _ hj
  have at0:i*t.size+(n - j)*t.size<=n*t.size:=by rw[←Nat.add_mul];exact Nat.mul_le_mul_right _ (by omega)
  have he2:(i+(n - j))*t.size+(n - (i+(n - j)))*t.size=n*t.size:=by rw[←Nat.add_mul];congr 1;omega
  have hnl:((cur.toList.take (n*t.size)).drop (j*t.size)).length=(n - j)*t.size:=by rw[List.length_drop,hrl,Nat.sub_mul]
  have YT:i*t.size+((cur.toList.take (n*t.size)).drop (j*t.size)).length<=cur.size:=by rw[hnl];omega
  have hL1:=qo cur.toList ((cur.toList.take (n*t.size)).drop (j*t.size)) (i*t.size) (by simpa using YT)
  rw[hZ (w:=w.drew) (g:=g) (t:=e) (cur:=cur) hw YT (λu hu=>hro u (List.mem_of_mem_drop hu)),
   hZ (g:=g) (t:=e) (cur:=(Go.Pv.putCells cur.toList (i*t.size) ((cur.toList.take (n*t.size)).drop (j*t.size))).toArray) (setRow_heap w.drew g cur _ e (0,0) hw) (by rw[List.size_toArray,hL1,asx,Array.length_toList];omega) hzo,setRow_setRow] at Rm
  subst Rm
  obtain⟨pM,aay⟩:∃ pM,pM=Go.Pv.putCells (Go.Pv.putCells cur.toList (i*t.size) ((cur.toList.take (n*t.size)).drop (j*t.size))) ((i+(n - j))*t.size) zl:=⟨_,rfl⟩
  simp only[List.toList_toArray] at d1 d2 ⊢
  rw[←aay] at d1 d2 ⊢
  have mf:(w.drew.setRow g pM.toArray).heap[g]?=some (.cells pM.toArray e (0,0)):=setRow_heap w.drew g cur _ e (0,0) hw
  have yE:∀ g',g'≠g->(w.drew.setRow g pM.toArray).heap[g']?=w.heap[g']?:=λg' h=>setRow_other w.drew g g' _ h
  have acV:(w.drew.setRow g pM.toArray).heap.size=w.heap.size:=setRow_size w.drew g _
  let ir:Nat->Option Nat:=λg'=>if σ g'=some 0 then some 0 else none
  have hσ:∀ g' q,ir g'=some q↔σ g'=some 0/\q=0:=λg' q=>by
   simp only[ir]
   split
   ·rename_i h;exact⟨λe=>⟨h,by injection e with e;exact e.symm⟩,λe=>by rw[e.2]⟩
   ·rename_i h;exact⟨λe=>(by cases e),λe=>absurd e.1 h⟩
  refine⟨_,hr,⟨rfl,rfl,rfl,by rw[acV];exact Nat.le_refl _,λg' _ hn'=>yE g' λe=>hn' ⟨0,by rw[e];exact hg⟩⟩,ir,[.slice (some ⟨g,0,none⟩) (i+(n - j)) c],rfl,rfl,λg' q bq=>?_,λq b hb=>?_,λd hd=>(by cases hd)⟩
  ·have h0:=((hσ g' q).1 bq).1
   exact⟨.inr ⟨0,h0⟩,by rw[acV];exact(gl.lt g' 0 h0).2⟩
  ·cases q with
   |succ q=>simp at hb
   |zero=>
    simp only[List.getElem?_cons_zero,Option.some.injEq] at hb
    subst hb
    refine⟨_,[.slice (some ⟨g,0,none⟩) (i+(n - j)) c],rfl,by simp[ah,isAgg],?_⟩
    have hyl:(List.take i xs++List.drop j xs).length=i+(n - j):=by rw[List.length_append,List.length_take,List.length_drop,←hn];omega
    simp only[M]
    refine .inr (.inr ⟨e,none,me,some ⟨g,0,none⟩,c,rfl,by rw[hyl],by rw[hyl];omega,λh hh=>(by cases hh),.inr ⟨g,pM.toArray,λg'=>if τ g'<i then τ g' else τ g' - (j - i),rfl,(hσ g 0).2 ⟨hg,rfl⟩,mf,by rw[List.size_toArray,d1,Array.length_toList];exact hs,hm,λk hk=>?_⟩⟩)
    have mc:k<i+(n - j):=by rw[←hyl];exact hk
    have nw:=d2 k mc
    simp only[List.toList_toArray]
    rw[nw]
    have cP:aU w (w.drew.setRow g pM.toArray) (Av σ B) (Av ir B):=⟨λg' hn' _=>yE g' λe=>hn' (.inl ⟨0,by rw[e];exact hg⟩),λg' _ bq=>bq.imp (λ⟨q,hq⟩=>⟨0,((hσ g' q).1 hq).1⟩) id⟩
    by_cases hki:k<i
    ·rw[if_pos hki]
     have hx:(List.take i xs++List.drop j xs)[k]'hk=xs[k]'(by omega):=by
      rw[List.getElem_append_left (by rw[List.length_take];omega),List.getElem_take]
     rw[hx]
     refine aG cP t (λg' bq _=>yE g' bq.2.1) (λg' bq _=>⟨(hσ g' 0).2 ⟨bq.1,rfl⟩,bq.2.1,?_⟩) (λp hp=>by simp[sub] at hp) (I1 k (by omega))
     rw[bq.2.2,if_pos hki]
    ·rw[if_neg hki]
     have hx:(List.take i xs++List.drop j xs)[k]'hk=xs[k+(j - i)]'(by omega):=by
      rw[List.getElem_append_right (by rw[List.length_take];omega),List.getElem_drop]
      congr 1
      rw[List.length_take]
      omega
     rw[hx]
     refine aG cP t (λg' bq _=>yE g' bq.2.1) (λg' bq _=>⟨(hσ g' 0).2 ⟨bq.1,rfl⟩,bq.2.1,?_⟩) (λp hp=>by simp[sub] at hp) (I1 (k+(j - i)) (by omega))
     rw[bq.2.2,if_neg (by omega)]
     omega
end Go.Pv
