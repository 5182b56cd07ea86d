/- A verified evaluator of the program's form over pure values, part 2: what it tells of a function holds. -/
import Derived.Test.YteplhdhbdkpgjaaGreatDoorPv1
import Derived.Laws.BytesString
import Derived.Laws.Cells
import Derived.Laws.CopyRow
import Derived.Laws.Entries
import Derived.Laws.MakeOwn
import Derived.Laws.OwnMore
import Derived.Laws.Shifts
import Derived.Laws.Strings
import Derived.Laws.StructEq
import Derived.Laws.Tables
import Derived.Maps.AppendAt
set_option linter.unusedSimpArgs false
set_option linter.unusedVariables false
noncomputable section
set_option autoImplicit true
set_option relaxedAutoImplicit true
namespace Go.Pv
open List Int IntKind
abbrev jL:= @Go.Addr.add_lit
abbrev dw:= @Array.getElem?_eq_getElem
abbrev gA:= @Array.size_push
abbrev il:= @Array.toList_inj
abbrev nf:= @Array.toList_map
abbrev lP:= @Bool.false_ne_true
abbrev ud:= @Function.comp_def
abbrev aY:= @List.drop_eq_getElem_cons
abbrev ek:= @List.eq_nil_of_length_eq_zero
abbrev gI:= @List.flatten_cons
abbrev nN:= @List.foldl_cons
abbrev bO:= @List.getElem?_eq_some_iff
abbrev rT:= @List.getElem?_mapIdx
abbrev mW:= @List.getElem?_set_self
abbrev qH:= @List.getElem?_toArray
abbrev gJ:= @List.getElem_take
abbrev xF:= @List.head?_drop
abbrev an:= @List.length_cons
abbrev rU:= @List.length_flatten
abbrev bh:= @List.length_map
abbrev sH:= @List.mapM_cons
abbrev bq:= @List.map_cons
abbrev oa:= @List.map_map
abbrev eQ:= @List.mem_append_left
abbrev mX:= @List.mem_append_right
abbrev lQ:= @List.mem_cons_self
abbrev dD:= @List.mem_filter
abbrev cv:= @List.mem_map
abbrev rV:= @List.replicate_succ'
abbrev fF:= @List.sum_cons
abbrev ob:= @List.take_succ_cons
abbrev iP:= @Nat.add_sub_cancel_left
abbrev dZ:= @Nat.add_zero
abbrev vj:= @Nat.eq_zero_or_pos
abbrev zb:= @Nat.lt_irrefl
abbrev nO:= @Nat.lt_of_le_of_lt
abbrev nm:= @Nat.mul_one
abbrev qx:= @Option.getD_some
abbrev aX:= @Go.Result.andThen_ok
abbrev a6:= @Go.Sem.run_bind
abbrev dk:= @Go.Sem.run_pure
abbrev bB:= @congrArg
abbrev ia:= @Go.heap_alloc_new
abbrev qy:= @not_false_eq_true
abbrev vk:= @Go.run_equalIn_bool'
abbrev oc:= @Go.run_loadCells_list
abbrev rk:= @Go.run_program
abbrev bc:= @Go.run_underlying
abbrev iw:= @Go.setRow_heap
abbrev kR:= @Go.setRow_other
abbrev jM:= @Go.setRow_size
variable {P:Program} {w w':World} {A A':Nat->Prop} {H:Nat->Value} {tm Nj:Nat->Value} {S S':St} {σ:Nat->Option Nat} {w0:World} {W0 Z:Nat->Prop} {a:Act} {own:Nat->Prop} {v:Value} {Θ:nh} {dst:Option Nat} {g:Bool}
def ad2 (P:Program) (w0:World) (W0 Z:Nat->Prop) (H:Nat->Value) (S':St) (a:Act) (dst:Option Nat) (w:World) (s:Sem Next):Prop:=∃ w' v,(s.run P w=.ok (.value v) w'∨(v=undef/\s.run P w=.ok .skip w'))/\Rel w0 W0 Z H S' (a.put dst v) w'
def Ext (w w':World):Prop:=∀ g,g<w.heap.size->w'.heap[g]?=w.heap[g]?
theorem Ext.refl (w:World):Ext w w:=λ_ _=>rfl
theorem Ext.stays (h:Ext w w'):cR w w' A A:=⟨λg _ hg=>h g hg,λ_ _ h=>h⟩
def xU (P:Program) (w0:World) (W0 Z:Nat->Prop) (H:Nat->Value) (S':St) (a:Act) (dst:Option Nat) (w:World) (s:Sem Next):Prop:=∃ v,(∀ w2,Ext w w2->s.run P w2=.ok (.value v) w2)/\Rel w0 W0 Z H S' (a.put dst v) w
theorem xU.goes (h:xU P w0 W0 Z H S' a dst w s):ad2 P w0 W0 Z H S' a dst w s:=by obtain⟨v,h1,h2⟩:=h;exact⟨w,v,.inl (h1 w (Ext.refl w)),h2⟩
theorem jo (h:dp σ w0 W0 Z H S a w) (hr:∀ w2,Ext w w2->s.run P w2=.ok (.value v) w2) (hv:Holds w (Av σ Z) H (gV a) S (λ_=>False) av v): xU P w0 W0 Z H (S.put dst av) a dst w s:=⟨v,hr,_,h.pure hv⟩
def C8 (P:Program) (w0:World) (W0 Z:Nat->Prop) (H:Nat->Value) (S':St) (a:Act) (dst:Option Nat) (w:World) (s:Sem Next):Prop:=∃ v,(∀ w2,s.run P w2=.ok (.value v) w2)/\Rel w0 W0 Z H S' (a.put dst v) w
theorem C8.q (h:C8 P w0 W0 Z H S' a dst w s):xU P w0 W0 Z H S' a dst w s:=by obtain⟨v,h1,h2⟩:=h;exact⟨v,λw2 _=>h1 w2,h2⟩
theorem im (h:dp σ w0 W0 Z H S a w) (hr:∀ w2,s.run P w2=.ok (.value v) w2) (hv:Holds w (Av σ Z) H (gV a) S (λ_=>False) av v): C8 P w0 W0 Z H (S.put dst av) a dst w s:=⟨v,hr,_,h.pure hv⟩
def scalar:Ty->Bool
 | .int _=>true | .bool=>true | .str=>true |_=>false
theorem abh {afU:Nat->Prop} (hs:scalar r.t=true) (h1:Holds w A H tm S own (.v r []) v1) (h2:Holds w' A' H tm1 S2 afU (.v r []) v2):v1=v2:=by
 obtain⟨rt,rm,rx⟩:=r;obtain⟨cs,a1,a2⟩:=h1;obtain⟨kY,b1,b2⟩:=h2;cases rt<;>simp[scalar] at hs<;>simp only[M] at a2 b2
 ·rw[kZ a1 a2.2,kZ b1 b2.2]
 ·rw[lO a1 a2.2,lO b1 b2.2]
 rw[qO a1 a2.2,qO b1 b2.2]
theorem MM (h:dp σ w0 W0 Z H S a w) (ho:S.pT Θ T x=some a') (hc:S.copy x a'=some av): Holds w (Av σ Z) H (gV a) S (λ_=>False) av (a.eval x):=by
 have hh:=eU h ho;cases a' with
 |v b ex=>
  simp only[St.copy] at hc;cases hk:b.m.fu with
  |true=>simp only[hk,ab,ah] at hc;subst hc;obtain⟨cs,h1,h2⟩:=hh;obtain⟨bt,bm,bx⟩:=b;refine⟨cs,h1,?_⟩;exact KO hk (tJ _ hk h2)
  |false=>
  simp only[hk,ae] at hc;cases x with
  |tmp i=>simp only[ah] at hc;subst hc;simp only[St.pT,ah] at ho;obtain⟨cs,h1,h2⟩:=hh;exact⟨b,cs,cs,⟨⟨ex,ho,λq _ s r e=>by cases q<;>simp at e⟩,trivial,⟨b,rfl,rfl⟩,h1⟩,rfl,h1⟩
  |const c=>
   cases ex with
   |cons _ _=>simp at hc
   |nil=>simp only[ah] at hc;subst hc;obtain⟨cs,h1,h2⟩:=hh;exact⟨cs,h1,ca (cR.refl _ _) _ (λ_ _ _=>rfl) (λg hg _=>by obtain⟨i,hi,_⟩:=hg;cases hi) (λ_ h=>h) h2⟩
  |func f=>
   cases ex with
   |cons _ _=>simp at hc
   |nil=>simp[St.pT] at ho
  |global f=>
  cases ex with
  |cons _ _=>simp at hc
  |nil=>simp[St.pT] at ho
 |dead=>simp[St.copy] at hc
 |PJ l=>simp[St.copy] at hc
 |undef=>simp only[St.copy,ah] at hc;subst hc;exact hh
 |al t s p=>simp only[St.copy,ah] at hc;subst hc;exact hh
 |ad t s p=>simp only[St.copy,ah] at hc;subst hc;exact hh
 |cut t s p lo hi=>simp only[St.copy,ah] at hc;subst hc;exact hh
 |EY f c=>simp only[St.copy,ah] at hc;subst hc;exact hh
theorem ava (h:dp σ w0 W0 Z H S a w) (ho:o.op=.move x) (hnt:∀ l,S.pT Θ o.type x≠some (.PJ l)) (e:Mw Θ S o.dst o.type x=some (true,S')):C8 P w0 W0 Z H S' a o.dst w (execOp a.eval o):=by
 unfold Mw at e;split at e
 ·rename_i l hl;exact absurd hl (hnt l)
 ·rename_i a' _ ha;split at e
  ·rename_i av hv;injection e with e;injection e with _ e;subst e;exact im h (λw2=>by simp only[execOp,ho];rfl) (MM h ha hv)
  cases e
 cases e
theorem aqs (T:TypeId) (hk:k=k'∨op=.shl∨op=.shr) (e:auT op k x y=some (true,r)): ∃ v,(binOp op T (.int k x) (.int k' y)).run P w=.ok v w/\Holds w A H tm S (λ_=>False) (.v r []) v:=by
 cases op<;>simp only[auT,ah,aG,reduceCtorEq,cp] at e;case add=>
  obtain rfl:k=k':=by simpa using hk
  subst e;exact⟨_,by simp[binOp,Op.intArith],mC _ _⟩
 case sub=>
  obtain rfl:k=k':=by simpa using hk
  subst e;exact⟨_,by simp[binOp,Op.intArith],mC _ _⟩
 case mul=>
  obtain rfl:k=k':=by simpa using hk
  subst e;exact⟨_,by simp[binOp,Op.intArith],mC _ _⟩
 case quo=>
  obtain rfl:k=k':=by simpa using hk
  obtain⟨e0,rfl⟩:=e
  have h0: ¬y=0:=by simpa using e0
  exact⟨_,by simp[binOp,Op.intDiv,h0],mC _ _⟩
 case rem=>
  obtain rfl:k=k':=by simpa using hk
  obtain⟨e0,rfl⟩:=e
  have h0: ¬y=0:=by simpa using e0
  exact⟨_,by simp[binOp,Op.intDiv,h0],mC _ _⟩
 case and=>
  obtain rfl:k=k':=by simpa using hk
  subst e;exact⟨_,by simp[binOp,Op.intBits],mC _ _⟩
 case or=>
  obtain rfl:k=k':=by simpa using hk
  subst e;exact⟨_,by simp[binOp,Op.intBits],mC _ _⟩
 case xor=>
  obtain rfl:k=k':=by simpa using hk
  subst e;exact⟨_,by simp[binOp,Op.intBits],mC _ _⟩
 case eql=>
  obtain rfl:k=k':=by simpa using hk
  subst e;exact⟨_,by simp[binOp,Op.intCmp],kQ _⟩
 case neq=>
  obtain rfl:k=k':=by simpa using hk
  subst e;exact⟨_,by simp[binOp,Op.intCmp],kQ _⟩
 case lss=>
  obtain rfl:k=k':=by simpa using hk
  subst e;exact⟨_,by simp[binOp,Op.intCmp],kQ _⟩
 case leq=>
  obtain rfl:k=k':=by simpa using hk
  subst e;exact⟨_,by simp[binOp,Op.intCmp],kQ _⟩
 case gtr=>
  obtain rfl:k=k':=by simpa using hk
  subst e;exact⟨_,by simp[binOp,Op.intCmp],kQ _⟩
 case geq=>
  obtain rfl:k=k':=by simpa using hk
  subst e;exact⟨_,by simp[binOp,Op.intCmp],kQ _⟩
 case shl=>
  obtain⟨e0,rfl⟩:=e
  have h0: ¬y<0:=by
   have:0<=y:=by simpa using e0
   omega
  exact⟨_,by simp[binOp,Op.shift,h0],mC _ _⟩
 case shr=>
  obtain⟨e0,rfl⟩:=e
  have h0: ¬y<0:=by
   have:0<=y:=by simpa using e0
   omega
  exact⟨_,by simp[binOp,Op.shift,h0],mC _ _⟩
theorem aqt (T:TypeId) (e:auU op x y=some (true,r)): ∃ v,(binOp op T (.string x) (.string y)).run P w=.ok v w/\Holds w A H tm S (λ_=>False) (.v r []) v:=by
 cases op<;>simp only[auU,ah,aG,reduceCtorEq,cp] at e;case add=>
  obtain⟨e0,rfl⟩:=e
  have h0:x.size+y.size<=9223372036854775807:=by simpa using e0
  refine⟨_,?_,aeG _⟩
  rw[binOp_string_add]
  simp only[Op.stringOp,IntKind.max_i64]
  rw[aq (by omega)]
  rfl
 case eql=>subst e;exact⟨_,by rw[binOp_string_eql];rfl,kQ _⟩
 case neq=>subst e;exact⟨_,by rw[binOp_string_neq];rfl,kQ _⟩
theorem ah4 (hm:a7 b.t v cs) (hK:K w (λ_=>False) b.t b.x cs) (e:auV op b=some r): ∃ u,(Op.unary op v).run P w=.ok u w/\Holds w A H tm S (λ_=>False) (.v r []) u:=by
 unfold auV at e;split at e
 ·injection e with e;subst e;obtain rfl:=lO hm hK;exact⟨_,rfl,kQ _⟩
 ·injection e with e;subst e;obtain rfl:=kZ hm hK;exact⟨_,rfl,mC _ _⟩
 ·injection e with e;subst e;obtain rfl:=kZ hm hK;exact⟨_,by simp[Op.unary,Op.intBits],mC _ _⟩
 cases e
theorem aA7 (h:dp σ w0 W0 Z H S a w) (ho:o.op=.unOp op T x) (e:aym Θ S o.dst op x=some (true,S')):xU P w0 W0 Z H S' a o.dst w (execOp a.eval o):=by
 unfold aym at e;split at e
 ·rename_i b hb;split at e
  ·rename_i r hr;injection e with e;injection e with _ e;subst e;obtain⟨cs,h1,h2,_⟩:=qw h hb;obtain⟨u,h3,h4⟩:=ah4 (P:=P) (A:=Av σ Z) (H:=H) (tm:=gV a) (S:=S) h1 h2 hr;have hsc:scalar r.t=true:=by unfold auV at hr;split at hr<;>first |(injection hr with hr;subst hr;rfl) |cases hr
   refine jo h (λw2 hw=>?_) h4;obtain⟨u2,k3,k4⟩:=ah4 (w:=w2) (P:=P) (A:=Av σ Z) (H:=H) (tm:=gV a) (S:=S) h1 (fR hw.stays _ h2) hr;rw[abh hsc h4 k4];simp[execOp,ho,k3]
  cases e
 cases e
theorem abi (hT:ke P Θ=true) (h:dp σ w0 W0 Z H S a w) {o:Oper} {T T':TypeId} {x:Operand} (ho:o.op=.convert T T' x) (hk:(match Θ.find T' with
  |some i=>(match i.ty with
   | .int _=>true
   |_=>false)
  |none=>false)=true) (e:wT Θ S o.dst T T' x=some (true,S')):C8 P w0 W0 Z H S' a o.dst w (execOp a.eval o):=by
 unfold wT at e
 split at e
 ·rename_i k m n i _ k' _ _ hb hi hj
  injection e with e;injection e with _ e;subst e
  obtain⟨cs,h1,h2,_⟩:=qw h hb
  have hv:=kZ h1 h2
  obtain⟨_,hu,rfl⟩:=kP hT hi
  obtain⟨_,PO,hT'⟩:=kP hT hj
  obtain⟨d,hd⟩:=(T9 hu).1
  have hd':=T7 PO rfl
  rw[hT'] at hd'
  refine im h (v:=.int k' (k'.wrap n)) (λw2=>?_) (mC _ _)
  simp[execOp,ho,hv,convert,bc hd,bc hd',Conv.intToInt]
 ·rename_i hj
  rw[hj] at hk
  cases hk
 ·cases e
theorem ah5 (hT:ke P Θ=true) (h:dp σ w0 W0 Z H S a w) (ho:o.op=.convert T T' x) (e:wT Θ S o.dst T T' x=some (true,S')):xU P w0 W0 Z H S' a o.dst w (execOp a.eval o):=by
 have e0:=e;unfold wT at e;split at e
 ·rename_i hj;exact(abi hT h ho (by rw[hj]) e0).q
 ·rename_i m xs _ _ _ _ _ _ hb hi hj;injection e with e;injection e with _ e;subst e;obtain⟨cs,h1,h2,_⟩:=qw h hb;obtain⟨X,c,hv,rfl,hc⟩:=Ix h1 h2;obtain⟨_,hu,hT0⟩:=kP hT hi;obtain⟨_,PO,hT'⟩:=kP hT hj;obtain⟨hd,he,_⟩:=Gs hu rfl;have hd':=MK PO rfl;obtain⟨ie,hie,rS⟩:=pC he;obtain⟨_,hue,hTe⟩:=kP hT hie;have hde:=T7 hue rS;simp only at hT0 hT' hd hd';rw[hT0] at hd;rw[hT'] at hd';rw[hTe] at hde;refine jo h (v:=.string (bytesOf xs)) (λw2 hw=>?_) ⟨[.string (bytesOf xs)],by simp[a7,isAgg],by simp[M,K,Md.fu]⟩;have hK:=fR hw.stays _ h2;simp only[execOp,ho,hv,a6];rw[run_convert_bytes_string w2 T T' _ X xs.length c hd hde hd'];simp only[K] at hK;obtain⟨X',c',e1,_,hx⟩:=hK;simp only[eB,fx,iO] at e1;obtain⟨rfl,_,rfl⟩:=e1;by_cases h0:0<xs.length
  ·obtain⟨g,off,cur,T2,fr,rfl,_,MC,hlen,Qh⟩:=hx h0;rw[run_bytesToString w2 ⟨g,off,none⟩ xs.length c xs ?_]
   ·simp[bytesOf,dk]
   have:=oc (P:=P) (w:=w2) ⟨g,off,none⟩ (xs.map (Value.int .u8)) (λj v hj=>?_)
   ·rwa [bh] at this
   rw[bR] at hj;cases Mt:xs[j]? with
   |none=>rw[Mt] at hj;cases hj
   |some n=>
   rw[Mt] at hj;simp only[aS,ah] at hj;subst hj;have Np:=(bO.1 Mt).1;have h3:=Qh j Np;have hn:xs[j]=n:=(bO.1 Mt).2;simp only[K,Ty.size,nm] at h3;rw[hn] at h3;have h4:(cur.toList.drop (off+j)).head?=some (.int .u8 n):=by
    cases hd:cur.toList.drop (off+j) with
    |nil=>rw[hd] at h3;simp at h3
    |cons y r=>rw[hd] at h3;simp at h3;simp[h3]
   rw[xF] at h4;rw[jL];simp only[World.cell?,MC];rw[←bK,h4];rfl
  have:xs=[]:=ek (by omega);subst this;cases X with
  |none=>simp[Conv.bytesToString,bytesOf,dk]
  |some A=>show((Conv.bytesToString (Value.slice (some A) 0 c)).run P w2).andThen _=_;rw[run_bytesToString w2 A 0 c [] (by simpa using oc (P:=P) (w:=w2) A [] (λj v hj=>by simp at hj))];simp[bytesOf,dk]
 cases e
theorem ao0 (x y:ByteArray):(x==y)=(x.toList==y.toList):=beq_toListBytes x y
theorem aeH (h:isAgg t=false):t.size=1:=by cases t<;>simp[isAgg] at h<;>rfl
theorem Lr (hT:ke P Θ=true) {T:TypeId} {t:Ty} (ht:Θ.is T t=true) {cs:List Value} {off:Nat} (hlen:off+t.size<=cs.length): ∃ u,(part T cs.toArray off).run P w=.ok u w/\a7 t u ((cs.drop off).take t.size):=by
 have hag:=ak1 hT ht w;obtain⟨inf,s1,s2,_⟩:=wX hT ht;have hso:(sizeOf T).run P w=.ok t.size w:=by simp[sizeOf,typeInfo,s1,s2]
 cases hca:isAgg t with
 |true=>
 refine⟨.agg (cs.toArray.extract off (off+t.size)),?_,?_⟩
 ·rw[hca] at hag;unfold part;simp only[a6,hag,aX,dF,hso];rfl
 unfold a7;rw[aA hca];congr 1;apply il.1;rw[Array.toList_extract,b5,b5,List.extract_eq_drop_take'];rw[iL,iP]
 |false=>
 have h1:=aeH hca;have ak2:off<cs.length:=by omega
 refine⟨cs[off],?_,?_⟩
 ·rw[hca] at hag;unfold part;simp only[a6,hag,aX,aq lP];rw[qH,aU ak2];rfl
 unfold a7;rw[aq (by rw[hca];exact lP),h1,aY ak2,ob,tX]
theorem ah6:∀ (p q:Path) (t:Ty),vX (p++q) t=(vX p t).bind (vX q):=by
 intro p;induction p with
 |nil=>intro q t;rfl
 |cons s p ih=>intro q t;cases s<;>cases t<;>first |rfl |exact ih q _
theorem abj:∀ (p q:Path) (t u:Ty),vX p t=some u->cE (p++q) t=cE p t+cE q u:=by
 intro p;induction p with
 |nil=>intro q t u h;simp only[vX,ah] at h;subst h;simp[cE]
 |cons s p ih=>
 intro q t u h;cases s<;>cases t<;>simp only[vX,reduceCtorEq] at h
 ·simp only[bF,cE];exact ih q _ u h
 simp only[bF,cE];rw[ih q _ u h];omega
theorem ayt (h2:2<=n):J0 k n=if k+1=n then List.replicate k .snd else List.replicate k .snd++[.fst]:=by
 unfold J0;have h1:Nat.beq n 1=false:=by
  cases hb:Nat.beq n 1 with
  |false=>rfl
  |true=>have:=aw hb;omega
 by_cases hkn:k+1=n
 ·rw[aA hkn,hkn,bV,h1];rfl
 have:Nat.beq (k+1) n=false:=by
  cases hb:Nat.beq (k+1) n with
  |false=>rfl
  |true=>exact absurd (aw hb) hkn
 rw[aq hkn,this];rfl
theorem PQ (ha:isAgg t=true) (h:a7 t v cs):v=.agg cs.toArray:=by simpa[a7,ha] using h
theorem Ua (hT:ke P Θ=true):∀ (d:Nat) (t:Ty) {T:TypeId} {x y:t.I} {r:Bool} {cs kY:List Value} {u v:Value},Θ.is T t=true->eqV t x y=some r->a7 t u cs->a7 t v kY->K w (λ_=>False) t x cs->K w (λ_=>False) t y kY->t.ht<d->
  (Op.equalIn d T u v).run P w=.ok r w
 |0,_,_,_,_,_,_,_,_,_,_,_,_,_,_,_,hd=>absurd hd (Nat.not_lt_zero _)
 |d+1,t,T,x,y,r,cs,kY,u,v,hT1,he,hu,hv,hx,hy,hd=>by
  obtain⟨i,hi,rS⟩:=pC hT1
  obtain⟨_,hun,h3⟩:=kP hT hi
  cases t with
  |int k=>
   have PO:=T7 hun rS
   rw[h3] at PO
   simp only[eqV,ah] at he
   subst he
   obtain rfl:=kZ hu hx
   obtain rfl:=kZ hv hy
   rw[run_equalIn_int w d T k k _ _ PO]
   congr 1
  |bool=>
   have PO:=T8 hun rS
   rw[h3] at PO
   simp only[eqV,ah] at he
   subst he
   obtain rfl:=lO hu hx
   obtain rfl:=lO hv hy
   exact vk w d T _ _ PO
  |str=>
   have PO:=MK hun rS
   rw[h3] at PO
   simp only[eqV,ah] at he
   subst he
   obtain rfl:=qO hu hx
   obtain rfl:=qO hv hy
   rw[run_equalIn_string w d T _ _ PO,ao0]
  |unit=>exact absurd rS (T9 hun).2.2
  |sl t=>simp[eqV] at he
  |ptr t=>simp[eqV] at he
  |arr n t=>simp[eqV] at he
  |mp=>simp[eqV] at he
  |pair pa pb=>
   obtain⟨fs,hfs,hft,AI,hg,hsh,hnb⟩:=Iw hun rS
   rw[h3] at hfs hsh
   obtain rfl:=PQ rfl hu
   obtain rfl:=PQ rfl hv
   have hfo:P.fieldsOf T=fs:=by unfold Program.fieldsOf;rw[hfs]
   rw[run_equalIn_struct w d T _ _ (by rw[hfo];exact hfs) hsh,hfo]
   have hlx:=(Fq _ hx).1
   have hly:=(Fq _ hy).1
   rw[rS] at AI
   have Xy:fs.toList.length=i.fs.length:=by rw[←hft,bh]
   have hU:=axv hT hi
   unfold uOK at hU
   rw[ai,rS] at hU
   have hU:=hU.2
   rcases gP fs.size 2 with h2 |h2
   ·match hfi:i.fs,hfe:fs.toList with
    |[],_=>rw[hfi] at hU;simp at hU
    |[T1],[f]=>
     rw[hfi] at hU
     cases pb<;>simp at hU
     rw[hfe] at AI
     have hs1:fs.size=1:=by rw[←bT,hfe];rfl
     simp only[Fw,hs1,dd] at AI
     have e1:J0 0 1=[.fst]:=rfl
     rw[e1] at AI
     simp only[vX,cE,ai] at AI
     obtain⟨⟨k1,k2⟩,k3⟩:=AI
     have k2:=aw k2
     simp only[Ty.size,dZ] at hlx hly
     obtain⟨u1,p1,p2⟩:=Lr (w:=w) hT k1 (cs:=cs) (off:=0) (by omega)
     obtain⟨v1,q1,q2⟩:=Lr (w:=w) hT k1 (cs:=kY) (off:=0) (by omega)
     rw[dX,cB (by omega)] at p2 q2
     simp only[eqV] at he
     split at he
     case h_2=>cases he
     rename_i p q hp hq
     injection hq with hq
     subst hq
     injection he with he
     subst he
     simp only[K] at hx hy
     obtain⟨c0,c1,rfl,hx0,hx1⟩:=hx
     obtain⟨c0',c1',rfl,hy0,hy1⟩:=hy
     subst hx1 hy1
     rw[b6] at p2 q2 p1 q1
     simp only[Ty.ht] at hd
     have hr:=Ua hT d _ k1 hp p2 q2 hx0 hy0 (by omega)
     have hnm:=hnb f (by rw[←Array.mem_toList_iff,hfe];exact bu.2 rfl)
     simp only[Op.eqFields,hnm,ne_eq,qy,dF,a6,k2,b6,p1,q1,aX,hr]
     cases p<;>simp
    |[T1],[]=>rw[hfi,hfe] at Xy;simp at Xy
    |[T1],_::_::_=>rw[hfi,hfe] at Xy;simp at Xy
    |_::_::_,_=>rw[hfi] at Xy;simp only[bT,an] at Xy;omega
   ·have key : ∀ (l : List Field) (k : Nat) (s : Ty) (x' y' : s.I) (c c' : List Value) (r : Bool), k + l.length = fs.size → l ≠ [] → (∀ f ∈ l, f.name ≠ "_") → Fw Θ (.pair pa pb) fs.size l k = true → vX (List.replicate k .snd) (.pair pa pb) = some s →
      cs.drop (cE (List.replicate k .snd) (.pair pa pb))=c->kY.drop (cE (List.replicate k .snd) (.pair pa pb))=c'->cE (List.replicate k .snd) (.pair pa pb)+s.size<=(Ty.pair pa pb).size->K w (λ_=>False) s x' c->K w (λ_=>False) s y' c'->(s.ht<d∨(1<l.length/\s.ht<d+1))->eqV s x' y'=some r->(Op.eqFields d cs.toArray kY.toArray l).run P w=.ok r w:=by
     intro l
     induction l with
     |nil=>intro k s x' y' c c' r _ h;exact absurd rfl h
     |cons f l ih=>
      intro k s x' y' c c' r hk _ hnm AI hs hc hc' sW hx hy hd he
      have hnf:=hnm f (lQ ..)
      simp only[Fw,ai] at AI
      obtain⟨AI,ah7⟩:=AI
      rw[ayt h2] at AI
      cases l with
      |nil=>
       rw[aA (by simpa using hk),hs] at AI
       simp only[ai] at AI
       obtain⟨⟨k1,k2⟩,k3⟩:=AI
       have k2:=aw k2
       obtain⟨u1,p1,p2⟩:=Lr (w:=w) hT k1 (cs:=cs) (off:=f.offset) (by omega)
       obtain⟨v1,q1,q2⟩:=Lr (w:=w) hT k1 (cs:=kY) (off:=f.offset) (by omega)
       have l1:=(Fq _ hx).1
       have l2:=(Fq _ hy).1
       rw[k2,hc,cB (by omega)] at p2
       rw[k2,hc',cB (by omega)] at q2
       have hr:=Ua hT d _ k1 he p2 q2 hx hy (by rcases hd with hd |hd;exact hd;simp at hd)
       simp only[Op.eqFields,hnf,ne_eq,qy,dF,a6,p1,q1,aX,hr]
       cases r<;>simp
      |cons f' l=>
       rw[aq (by simp only[an] at hk;omega),ah6,hs,aL] at AI
       cases s with
       |pair sa sb=>
        simp only[vX,ai] at AI
        obtain⟨⟨k1,k2⟩,k3⟩:=AI
        have k2:=aw k2
        rw[abj _ _ _ _ hs] at k2
        simp only[cE,dZ] at k2
        simp only[eqV] at he
        split at he
        case h_2=>cases he
        rename_i p q hp hq
        injection he with he
        subst he
        simp only[K] at hx hy
        obtain⟨c0,c1,hcc,hx0,hx1⟩:=hx
        obtain⟨c0',c1',aA8,hy0,hy1⟩:=hy
        have l0:=(Fq _ hx0).1
        have l0':=(Fq _ hy0).1
        simp only[Ty.size] at sW hlx hly
        obtain⟨u1,p1,p2⟩:=Lr (w:=w) hT k1 (cs:=cs) (off:=f.offset) (by omega)
        obtain⟨v1,q1,q2⟩:=Lr (w:=w) hT k1 (cs:=kY) (off:=f.offset) (by omega)
        rw[k2,hc,hcc,←l0,eh] at p2
        rw[k2,hc',aA8,←l0',eh] at q2
        have hdd:max sa.ht sb.ht+1<d+1:=by
         simp only[Ty.ht] at hd
         omega
        have hr:=Ua hT d _ k1 hp p2 q2 hx0 hy0 (by omega)
        have aA9:List.replicate (k+1) Step.snd=List.replicate k .snd++[.snd]:=rV
        have ayu:cE (List.replicate (k+1) .snd) (.pair pa pb)=cE (List.replicate k .snd) (.pair pa pb)+sa.size:=by
         rw[aA9,abj _ _ _ _ hs];simp[cE]
        have hi:=ih (k+1) sb x'.2 y'.2 c1 c1' q (by simp only[an] at hk ⊢;omega) (by simp) (λf hf=>hnm f (er _ hf)) ah7 (by rw[aA9,ah6,hs];rfl)
         (by rw[ayu,←ef,hc,hcc,←l0,dy]) (by rw[ayu,←ef,hc',aA8,←l0',dy]) (by rw[ayu];simp only[Ty.size];omega) hx1 hy1 (.inl (by omega)) hq
        simp only[Op.eqFields,hnf,ne_eq,qy,dF,a6,p1,q1,aX,hr]
        cases p with
        |false=>simp
        |true=>simpa[Op.eqFields] using hi
       |_=>simp[vX] at AI
    exact key fs.toList 0 _ x y cs kY r (by simp) (λe=>by rw[←bT,e] at h2;simp at h2) (λf hf=>hnb f (by simpa using hf)) AI rfl rfl rfl (by simp[cE]) hx hy (.inr ⟨by rw[bT];omega,hd⟩) he
theorem ani (hT:ke P Θ=true) (hp:a7 p.t u cs) (hq:a7 q.t v kY) (kp:K w (λ_=>False) p.t p.x cs) (kq:K w (λ_=>False) q.t q.x kY) (hi:p.t=.bool∨isAgg p.t=true->Θ.is T p.t=true) (e:xl op p q=some (true,r)): ∃ z,((do eqGuard op T x y u v;binOp op T u v):Sem Value).run P w=.ok z w/\Holds w A H tm S (λ_=>False) (.v r []) z:=by
 unfold xl at e;split at e
 ·rename_i k _ x0 k' _ y0;split at e
  ·rename_i hk;obtain rfl:=kZ hp kp;obtain rfl:=kZ hq kq;obtain⟨z,h1,h2⟩:=aqs (P:=P) (w:=w) (A:=A) (H:=H) (tm:=tm) (S:=S) T hk e;exact⟨z,by rw[eqGuard_at_int];simpa using h1,h2⟩
  cases e
 ·obtain rfl:=qO hp kp;obtain rfl:=qO hq kq;obtain⟨z,h1,h2⟩:=aqt (P:=P) (w:=w) (A:=A) (H:=H) (tm:=tm) (S:=S) T e;exact⟨z,by rw[eqGuard_at_string];simpa using h1,h2⟩
 ·obtain rfl:=lO hp kp;obtain rfl:=lO hq kq;obtain⟨i,h1,h2⟩:=pC (hi (.inl rfl));obtain⟨_,hu,h3⟩:=kP hT h1;have PO:=T8 hu h2;rw[h3] at PO;split at e
  ·injection e with e;injection e with _ e;subst e;refine⟨_,?_,kQ _⟩;rw[eqGuard_at_bool];simp[binOp,Op.equal,Op.maxDepth,vk w 9999 T _ _ PO]
  ·injection e with e;injection e with _ e;subst e;refine⟨_,?_,kQ _⟩;rw[eqGuard_at_bool];simp[binOp,Op.equal,Op.maxDepth,vk w 9999 T _ _ PO]
  cases e
 ·rename_i t t' _ x0 t2 _ y0;split at e
  ·rename_i ht;subst ht;have hTT:=hi (.inr rfl);obtain⟨i,h1,h2⟩:=pC hTT;obtain⟨mI,hu,h3⟩:=kP hT h1;obtain⟨fs,hfs,_,_,hg,_,_⟩:=Iw hu h2;rw[h3] at hg;have eu:=PQ rfl hp;have ev:=PQ rfl hq;have sW:(Ty.pair t t').ht<10000:=nO (show(Ty.pair t t').ht<=9000 from by
    have hs:=axv hT h1
    unfold uOK at hs
    rw[ai,h2] at hs
    exact bH hs.1) (by decide)
   split at e
   ·rename_i r0 h0;injection e with e;injection e with _ e;subst e;have hr:=Ua (P:=P) hT 10000 (.pair t t') hTT h0 hp hq kp kq sW;rw[eu,ev] at hr ⊢;refine⟨_,?_,kQ _⟩;simp only[a6,run_eqGuard_agg (P:=P) w _ T x y _ _ hg,aX,run_eql_struct,hr]
   ·rename_i r0 h0;injection e with e;injection e with _ e;subst e;have hr:=Ua (P:=P) hT 10000 (.pair t t') hTT h0 hp hq kp kq sW;rw[eu,ev] at hr ⊢;refine⟨_,?_,kQ _⟩;simp only[a6,run_eqGuard_agg (P:=P) w _ T x y _ _ hg,aX,run_neq_struct,hr]
   cases e
  cases e
 cases e
theorem af5 (e:xl op p q=some (g,r)):scalar r.t=true:=by
 unfold xl at e;split at e
 ·split at e
  ·unfold auT at e;split at e<;>first |(injection e with e;injection e with _ e;subst e;rfl) |cases e
  cases e
 ·unfold auU at e;split at e<;>first |(injection e with e;injection e with _ e;subst e;rfl) |cases e
 ·split at e<;>first |(injection e with e;injection e with _ e;subst e;rfl) |cases e
 ·split at e
  ·split at e<;>first |(injection e with e;injection e with _ e;subst e;rfl) |cases e
  cases e
 cases e
theorem Ls:∀ (t:Ty) {x y:t.I} {r:Bool},eqV t x y=some r->∀ {z:t.I} {cs:List Value},K w A t z cs->K w' A t z cs
 | .int _,_,_,_,_,_,_,h=>h
 | .bool,_,_,_,_,_,_,h=>h
 | .str,_,_,_,_,_,_,h=>h
 | .unit,_,_,_,_,_,_,h=>h
 | .pair a b,x,y,r,e,z,cs,h=>by
  simp only[eqV] at e;split at e
  ·rename_i p q hp hq;obtain⟨c0,c1,h0,h1,h2⟩:=h;exact⟨c0,c1,h0,Ls a hp h1,Ls b hq h2⟩
  cases e
 | .sl _,_,_,_,e,_,_,_=>by simp[eqV] at e
 | .ptr _,_,_,_,e,_,_,_=>by simp[eqV] at e
 | .arr _ _,_,_,_,e,_,_,_=>by simp[eqV] at e
 | .mp,_,_,_,e,_,_,_=>by simp[eqV] at e
theorem ak3 (e:xl op p q=some gr) (h:K w A p.t p.x cs):K w' A p.t p.x cs:=by
 obtain⟨t,m,x⟩:=p;obtain⟨t',m',y⟩:=q;cases t with
 |int k=>exact h
 |bool=>exact h
 |str=>exact h
 |unit=>exact h
 |pair a b=>
 simp only[xl] at e;split at e;case isFalse=>cases e
 rename_i ht;subst ht;split at e
 ·rename_i hr;exact Ls _ hr h
 ·rename_i hr;exact Ls _ hr h
 cases e
 |_=>simp[xl] at e
theorem ah8 (e:xl op p q=some gr) (h:K w A q.t q.x cs):K w' A q.t q.x cs:=by
 obtain⟨t,m,x⟩:=p;obtain⟨t',m',y⟩:=q;cases t with
 |pair a b=>
 simp only[xl] at e;split at e;case isFalse=>cases e
 rename_i ht;subst ht;split at e
 ·rename_i hr;exact Ls _ hr h
 ·rename_i hr;exact Ls _ hr h
 cases e
 |int k=>cases t'<;>first |exact h |(simp[xl] at e;done)
 |bool=>cases t'<;>first |exact h |(simp[xl] at e;done)
 |str=>cases t'<;>first |exact h |(simp[xl] at e;done)
 |_=>simp[xl] at e
theorem aqu (hT:ke P Θ=true) (h:dp σ w0 W0 Z H S a w) (ho:o.op=.binOp op T x y T') (e:aaS Θ S o.dst op T x y=some (true,S')):C8 P w0 W0 Z H S' a o.dst w (execOp a.eval o):=by
 unfold aaS at e;split at e
 ·rename_i p q hp hq;obtain⟨cs,h1,h2,_⟩:=qw h hp;obtain⟨kY,h1',h2',_⟩:=qw h hq;have fin:∀ (r:TV),(p.t=.bool∨isAgg p.t=true->Θ.is T p.t=true)->xl op p q=some (true,r)->C8 P w0 W0 Z H (S.put o.dst (.v r [])) a o.dst w (execOp a.eval o):=by intro r hi hb;obtain⟨z,h3,h4⟩:=ani (P:=P) (A:=Av σ Z) (H:=H) (tm:=gV a) (S:=S) (x:=x) (y:=y) hT h1 h1' h2 h2' hi hb;have hsc:scalar r.t=true:=af5 hb;refine im h (v:=z) (λw2=>?_) h4;obtain⟨z2,k3,k4⟩:=ani (w:=w2) (P:=P) (A:=Av σ Z) (H:=H) (tm:=gV a) (S:=S) (x:=x) (y:=y) hT h1 h1' (ak3 hb h2) (ah8 hb h2') hi hb;rw[abh hsc h4 k4];simp only[execOp,ho];simp only[a6] at k3 ⊢;rw[k3];rfl
  split at e
  ·rename_i ht;cases hc:Θ.is T .bool with
   |false=>rw[hc] at e;cases e
   |true=>
   rw[hc] at e;simp only[ab] at e;split at e
   ·rename_i g r hb;injection e with e;injection e with e1 e;subst e e1;exact fin r (λ_=>by rw[ht];exact hc) hb
   cases e
  ·rename_i t t' ht;cases hc:Θ.is T p.t with
   |false=>rw[hc] at e;cases e
   |true=>
   rw[hc] at e;simp only[ab] at e;split at e
   ·rename_i g r hb;injection e with e;injection e with e1 e;subst e e1;exact fin r (λ_=>hc) hb
   cases e
  rename_i n1 n2;split at e
  ·rename_i g r hb;injection e with e;injection e with e1 e;subst e e1;refine fin r (λhh=>?_) hb;rcases hh with hh |hh
   ·exact absurd hh n1
   obtain⟨pt,pm,px⟩:=p;simp only at hh n1 n2;cases pt<;>simp[isAgg] at hh
   ·exact absurd rfl (n2 _ _)
   ·simp[xl] at hb
   simp[xl] at hb
  cases e
 cases e
end Go.Pv
namespace Go.Pv
open List Int IntKind
variable {P:Program} {w w':World} {A A':Nat->Prop} {H:Nat->Value} {tm Nj:Nat->Value} {S S':St} {σ:Nat->Option Nat} {w0:World} {W0 Z:Nat->Prop} {a:Act} {own:Nat->Prop} {v:Value} {Θ:nh} {dst:Option Nat} {g:Bool}
theorem Ou (h:bj n len=true):0<=n/\n<(len:Int):=by simpa[bj] using h
theorem aqv (hT:ke P Θ=true) (h:dp σ w0 W0 Z H S a w) (ho:o.op=.index T x ix) (e:afS Θ S o.dst T x ix=some (true,S')):xU P w0 W0 Z H S' a o.dst w (execOp a.eval o):=by
 unfold afS at e;split at e
 ·rename_i m s n hb hn;cases hc:Θ.is T .str with
  |false=>rw[hc] at e;cases e
  |true=>rw[hc] at e;simp only[ab,ah,aG] at e;obtain⟨e1,e⟩:=e;subst e;obtain⟨b1,b2⟩:=Ou e1;obtain⟨cs,h1,h2,_⟩:=qw h hb;have hv:=qO h1 h2;obtain⟨k,hk⟩:=za h hn;obtain⟨i,hi,rS⟩:=pC hc;obtain⟨_,hu,Sc⟩:=kP hT hi;have PO:=MK hu rS;rw[Sc] at PO;refine jo h (v:=.int .u8 (bt s n)) (λw2 _=>?_) (mC _ _);have gU:n.toNat<s.size:=(by omega);have sB:s[n.toNat]?=some s[n.toNat]:=ByteArray.getElem?_lt' s _ gU;have Qg:bt s n=(s[n.toNat].toNat:Int):=(by unfold bt;rw[jn gU]);simp[execOp,ho,hv,hk,Instr.index,asIntOf,bc PO,b1,sB,Qg]
 cases e
theorem qg (h:S.ki s p=some b):∃ r ex,S.at s=.v r ex/\(∀ q∈ex,under q p=false)/\dP p r.t r.m r.x=some b:=by
 unfold St.ki at h;split at h
 ·rename_i r ex he;cases hc:ex.all λq=>!under q p with
  |true=>rw[hc] at h;exact⟨r,ex,he,λq hq=>by simpa using aO.1 hc q hq,h⟩
  |false=>rw[hc] at h;cases h
 cases h
theorem Im:∀ (q:Path) (s:Step) (r:Path),under q (q++s::r)=true
 |[],_,_=>by simp[under]
 | .idx i::q,s,r=>by simp[under];exact Im q s r
 | .deref::q,s,r=>by simp[under];exact Im q s r
 | .fst::q,s,r=>by simp[under];exact Im q s r
 | .snd::q,s,r=>by simp[under];exact Im q s r
theorem rW (h:∀ q∈ex,under q p=false):open_ p ex:=λq hq s r e=>by have:=h q hq;rw[e,Im] at this;cases this
theorem MN (h:S.place s p=some b):∃ r ex,S.at s=.v r ex/\(∀ q∈ex,v8 q p=false)/\dP p r.t r.m r.x=some b:=by
 unfold St.place at h;split at h
 ·rename_i r ex he;cases hc:ex.all λq=>!v8 q p with
  |true=>rw[hc] at h;exact⟨r,ex,he,λq hq=>by simpa using aO.1 hc q hq,h⟩
  |false=>rw[hc] at h;cases h
 cases h
theorem aqw (hT:ke P Θ=true) (h:dp σ w0 W0 Z H S a w) (ho:o.op=.call { callee:=.builtin .len,args:=as,argTypes:=ts }) (e:ap3 Θ S o.dst ts.toList as.toList=some (true,S')):C8 P w0 W0 Z H S' a o.dst w (execOp a.eval o):=by
 obtain⟨as⟩:=as;obtain⟨ts⟩:=ts;simp only at e;unfold ap3 at e;split at e
 ·rename_i x T;split at e
  ·rename_i b hb;cases hc:Θ.is T b.t with
   |false=>rw[hc] at e;cases e
   |true=>
   rw[hc] at e;simp only[ab] at e;split at e
   ·rename_i n hn;injection e with e;injection e with _ e;subst e;have AQ:(∃ xs:ByteArray,b.t=.str/\a.eval x=.string xs/\n=(xs.size:Int))∨∃ t X c,∃ m:Nat,b.t=.sl t/\a.eval x=.slice X m c/\n=(m:Int):=by
     obtain⟨bt,bm,bx⟩:=b;unfold axo at hn;split at hn
     ·rename_i t m xs heq;cases heq;injection hn with hn;right;split at hb
      ·rename_i b' ex pU;cases hx:ex.any List.isEmpty with
       |true=>rw[hx] at hb;cases hb
       |false=>
       rw[hx] at hb;simp only[ae,ah] at hb;subst hb;obtain⟨cs,h1,h2⟩:=eU h pU;simp only[M] at h2;rcases h2 with⟨xB,_⟩ |⟨_,h2⟩ |⟨T',tag,me,X,c,_,rfl,_⟩
       ·have:ex.any List.isEmpty=true:=dB.2 ⟨[],xB,rfl⟩;rw[hx] at this;cases this
       ·obtain⟨X,c,hv,_⟩:=Ix h1 h2;exact⟨_,X,c,_,rfl,hv,hn.symm⟩
       exact⟨_,X,c,_,rfl,by simpa[a7,isAgg] using h1.symm,hn.symm⟩
      ·rename_i t0 s0 p0 pU;split at hb
       ·rename_i b' hpl;injection hb with hb;subst hb;obtain⟨cs,h1,h2,_⟩:=Ot (av:=.al t0 s0 p0) h (eU h pU) (by simpa[St.PK] using hpl);obtain⟨X,c,hv,_⟩:=Ix h1 h2;exact⟨_,X,c,_,rfl,hv,hn.symm⟩
       split at hb
       ·rename_i t1 m1 xs1 Y5;injection hb with hb;cases hb;obtain⟨r,lB,cs,hr,C1,hm⟩:=eU h pU;obtain⟨ex,b2,kY,ow0,j1,j2,j3,j4,hM,j5,j6,j7⟩:=u6 h hr;rw[C1] at j5;injection j5 with j5;subst j5;obtain⟨r2,ex2,q1,q2,q3⟩:=qg Y5;rw[j1] at q1;injection q1 with q1 q1';subst q1 q1';rw[j3] at q3;injection q3 with q3;subst q3;simp only at j4;subst j4;simp only[M] at j7;rcases j7 with⟨_,_,X,c,rfl⟩ |⟨_,h2⟩ |⟨T',tag,me,X,c,_,rfl,_⟩
        ·exact⟨_,X,c,_,rfl,by simpa[a7,isAgg] using hm.symm,hn.symm⟩
        ·obtain⟨X,c,hv,_⟩:=Ix hm h2;exact⟨_,X,c,_,rfl,hv,hn.symm⟩
        exact⟨_,X,c,_,rfl,by simpa[a7,isAgg] using hm.symm,hn.symm⟩
       cases hb
      ·rename_i a' _ _ pU;obtain⟨cs,h1,h2,_⟩:=Ot h (eU h pU) hb;obtain⟨X,c,hv,_⟩:=Ix h1 h2;exact⟨_,X,c,_,rfl,hv,hn.symm⟩
      cases hb
     ·rename_i m xs heq;cases heq;injection hn with hn;left;split at hb
      ·rename_i b' ex pU;cases hx:ex.any List.isEmpty with
       |true=>rw[hx] at hb;cases hb
       |false=>rw[hx] at hb;simp only[ae,ah] at hb;subst hb;obtain⟨cs,h1,h2⟩:=eU h pU;simp only[M] at h2;exact⟨_,rfl,qO h1 h2.2,hn.symm⟩
      ·rename_i t0 s0 p0 pU;split at hb
       ·rename_i b' hpl;injection hb with hb;subst hb;obtain⟨cs,h1,h2,_⟩:=Ot (av:=.al t0 s0 p0) h (eU h pU) (by simpa[St.PK] using hpl);exact⟨_,rfl,qO h1 h2,hn.symm⟩
       split at hb
       ·injection hb with hb;cases hb
       cases hb
      ·rename_i a' _ _ pU;obtain⟨cs,h1,h2,_⟩:=Ot h (eU h pU) hb;exact⟨_,rfl,qO h1 h2,hn.symm⟩
      cases hb
     cases hn
    obtain⟨i,hi,rS⟩:=pC hc;obtain⟨_,hu,Sc⟩:=kP hT hi;rcases AQ with⟨xs,ht,hv,rfl⟩ |⟨t,X,c,m,ht,hv,rfl⟩
    ·have PO:=MK hu (rS.trans ht);rw[Sc] at PO;refine im h (v:=.int .i64 xs.size) (λw2=>?_) (mC _ _);simp[execOp,ho,hv,resolve,invoke,builtin,Builtin.len_,bc PO,goInt]
    have PO:=(Gs hu (rS.trans ht)).1;rw[Sc] at PO;refine im h (v:=.int .i64 m) (λw2=>?_) (mC _ _);simp[execOp,ho,hv,resolve,invoke,builtin,Builtin.len_,bc PO,goInt]
   cases e
  cases e
 cases e
theorem avb (h:dp σ w0 W0 Z H S a w) (ho:o.op=.pick c x y) (e:akG Θ S o.dst o.type c x y=some (true,S')):xU P w0 W0 Z H S' a o.dst w (execOp a.eval o):=by
 unfold akG at e;split at e
 ·rename_i m q hq;obtain⟨cs,h1,h2,_⟩:=qw h hq;have hv:=lO h1 h2;have iD:∀ w2,Ext w w2->(execOp a.eval o).run P w2=.ok (.value (if q=true then a.eval x else a.eval y)) w2:=λw2 _=>by simp only[execOp,ho,hv,asBool];rfl
  split at e
  ·rename_i m1 x1 e1 m2 y1 e2 hx hy;injection e with e;injection e with _ e;subst e;refine jo h iD ?_;obtain⟨c1,k1,k2⟩:=eU h hx;obtain⟨c2,k3,k4⟩:=eU h hy;simp only[M] at k2 k4;have:=lO k1 k2.2;have:=lO k3 k4.2;cases q<;>simp_all<;>exact kQ _
  ·rename_i p r xB hx hy;cases q with
   |true=>
   simp only[ab] at e;split at e
   ·rename_i av pU;injection e with e;injection e with _ e;subst e;exact jo h (λw2 hw=>by simpa using iD w2 hw) (MM h hx pU)
   cases e
   |false=>
   simp only[ae] at e;split at e
   ·rename_i av pU;injection e with e;injection e with _ e;subst e;exact jo h (λw2 hw=>by simpa using iD w2 hw) (MM h hy pU)
   cases e
  cases e
 cases e
end Go.Pv
namespace Go.Pv
open List Int IntKind
variable {P:Program} {w w':World} {A A':Nat->Prop} {H:Nat->Value} {tm Nj:Nat->Value} {S S':St} {σ:Nat->Option Nat} {w0:World} {W0 Z:Nat->Prop} {a:Act} {own:Nat->Prop} {v:Value} {Θ:nh} {dst:Option Nat}
theorem tK:∀ (p q:Path) (t:Ty) (m:Md) (x:t.I),dP (p++q) t m x=(dP p t m x).bind λb=>dP q b.t b.m b.x
 |[],q,t,m,x=>rfl
 | .deref::p,q,t,m,x=>by cases t<;>simp only[bF,dP,gz]<;>exact tK p q _ _ _
 | .fst::p,q,t,m,x=>by cases t<;>simp only[bF,dP,gz]<;>exact tK p q _ _ _
 | .snd::p,q,t,m,x=>by cases t<;>simp only[bF,dP,gz]<;>exact tK p q _ _ _
 | .idx i::p,q,t,m,x=>by cases t<;>simp only[bF,dP,gz]<;>exact tK p q _ _ _
theorem ue:∀ (p q:Path) {t:Ty} {m:Md} {x:t.I} {b:TV},dP p t m x=some b->valid p t x->valid q b.t b.x->valid (p++q) t x
 |[],q,t,m,x,b,hg,_,h=>by simp only[dP,ah] at hg;subst hg;exact h
 | .deref::p,q,.ptr t,m,x,b,hg,h1,h2=>by simp only[dP] at hg;simp only[valid] at h1;simp only[bF,valid];exact ue p q hg h1 h2
 | .fst::p,q,.pair _ _,m,x,b,hg,h1,h2=>by simp only[dP] at hg;simp only[valid] at h1;simp only[bF,valid];exact ue p q hg h1 h2
 | .snd::p,q,.pair _ _,m,x,b,hg,h1,h2=>by simp only[dP] at hg;simp only[valid] at h1;simp only[bF,valid];exact ue p q hg h1 h2
 | .idx i::p,q,.sl t,m,x,b,hg,h1,h2=>by simp only[dP] at hg;simp only[valid] at h1;simp only[bF,valid];exact⟨h1.1,ue p q hg h1.2 h2⟩
theorem Y6 (cs:List Value):(∃ g off,cs=[.pointer (some ⟨g,off,none⟩)])∨((∀ (w:World) (p:Path) (t:Ty),cD w (.deref::p) (.ptr t) cs=none)/\∀ (w:World) (p:Path) (t:Ty) (l:Option (Nat×Nat)),addrAt w (.deref::p) (.ptr t) cs l=none):=by
 rcases cs with _ |⟨v,_ |⟨_,_⟩⟩
 ·exact .inr ⟨λ_ _ _=>rfl,λ_ _ _ _=>rfl⟩
 ·cases v<;>try exact .inr ⟨λ_ _ _=>rfl,λ_ _ _ _=>rfl⟩
  rename_i x;rcases x with _ |⟨g,off,_ |_⟩
  ·exact .inr ⟨λ_ _ _=>rfl,λ_ _ _ _=>rfl⟩
  ·exact .inl ⟨g,off,rfl⟩
  exact .inr ⟨λ_ _ _=>rfl,λ_ _ _ _=>rfl⟩
 cases v<;>try exact .inr ⟨λ_ _ _=>rfl,λ_ _ _ _=>rfl⟩
 rename_i x;rcases x with _ |⟨g,off,_ |_⟩<;>exact .inr ⟨λ_ _ _=>rfl,λ_ _ _ _=>rfl⟩
theorem aeI (cs:List Value):(∃ g off n c,cs=[.slice (some ⟨g,off,none⟩) n c])∨((∀ (w:World) (i:Nat) (p:Path) (t:Ty),cD w (.idx i::p) (.sl t) cs=none)/\∀ (w:World) (i:Nat) (p:Path) (t:Ty) (l:Option (Nat×Nat)),addrAt w (.idx i::p) (.sl t) cs l=none):=by
 rcases cs with _ |⟨v,_ |⟨_,_⟩⟩
 ·exact .inr ⟨λ_ _ _ _=>rfl,λ_ _ _ _ _=>rfl⟩
 ·cases v<;>try exact .inr ⟨λ_ _ _ _=>rfl,λ_ _ _ _ _=>rfl⟩
  rename_i x n c;rcases x with _ |⟨g,off,_ |_⟩
  ·exact .inr ⟨λ_ _ _ _=>rfl,λ_ _ _ _ _=>rfl⟩
  ·exact .inl ⟨g,off,n,c,rfl⟩
  exact .inr ⟨λ_ _ _ _=>rfl,λ_ _ _ _ _=>rfl⟩
 cases v<;>try exact .inr ⟨λ_ _ _ _=>rfl,λ_ _ _ _ _=>rfl⟩
 rename_i x n c;rcases x with _ |⟨g,off,_ |_⟩<;>exact .inr ⟨λ_ _ _ _=>rfl,λ_ _ _ _ _=>rfl⟩
theorem uf:∀ (p q:Path) {t:Ty} {m:Md} {x:t.I} {b:TV} (cs:List Value) (l:Option (Nat×Nat)),dP p t m x=some b-> cD w (p++q) t cs=(cD w p t cs).bind (cD w q b.t)/\addrAt w (p++q) t cs l=(cD w p t cs).bind λc=>addrAt w q b.t c (addrAt w p t cs l)
 |[],q,t,m,x,b,cs,l,hg=>by simp only[dP,ah] at hg;subst hg;exact⟨rfl,rfl⟩
 | .fst::p,q,.pair a' b',m,x,b,cs,l,hg=>by simp only[dP] at hg;simp only[bF,cD,addrAt];exact uf p q _ _ hg
 | .snd::p,q,.pair a' b',m,x,b,cs,l,hg=>by simp only[dP] at hg;simp only[bF,cD,addrAt];exact uf p q _ _ hg
 | .deref::p,q,.ptr t,m,x,b,cs,l,hg=>by
  simp only[dP] at hg;have ih:=λc l'=>uf p q c l' hg;rw[bF];rcases Y6 cs with⟨g,off,rfl⟩ |⟨h1,h2⟩
  ·simp only[cD,addrAt];cases hr:rowAt w g off t.size with
   |none=>simp
   |some c=>simp only[aL];exact ih c _
  simp only[h1,h2,gz,and_self]
 | .idx i::p,q,.sl t,m,x,b,cs,l,hg=>by
  simp only[dP] at hg;have ih:=λc l'=>uf p q c l' hg;rw[bF];rcases aeI cs with⟨g,off,n,c,rfl⟩ |⟨h1,h2⟩
  ·simp only[cD,addrAt];cases hr:rowAt w g (off+i*t.size) t.size with
   |none=>simp
   |some c=>simp only[aL];exact ih c _
  simp only[h1,h2,gz,and_self]
theorem Lt (h:rowAt w g off n=some cs):cs.length=n/\∃ cur T fr,w.heap[g]?=some (.cells cur T fr)/\off+n<=cur.size/\cs=(cur.toList.drop off).take n:=by
 unfold rowAt at h;split at h
 ·rename_i cur T fr hw;split at h
  ·rename_i hl;injection h with h;subst h;refine⟨by simp;omega,cur,T,fr,hw,hl,rfl⟩
  cases h
 cases h
theorem abk {g off n a b:Nat} {cs:List Value} (h:rowAt w g off n=some cs) (hab:a+b<=n):rowAt w g (off+a) b=some ((cs.drop a).take b):=by obtain⟨_,cur,T,fr,hw,hl,rfl⟩:=Lt h;rw[eT hw (by omega),iL,ni,ef,kM (by omega)]
theorem Ov:∀ (p:Path) {t:Ty} {m:Md} {x:t.I} {b:TV} {cs kY:List Value} {l:Option (Nat×Nat)} {g off:Nat},dP p t m x=some b->cs.length=t.size->(∀ g o,l=some (g,o)->rowAt w g o t.size=some cs)-> cD w p t cs=some kY->addrAt w p t cs l=some (g,off)->rowAt w g off b.t.size=some kY
 |[],t,m,x,b,cs,kY,l,g,off,hg,hl,hr,hc,ha=>by simp only[dP,ah] at hg;subst hg;simp only[cD,ah] at hc;subst hc;exact hr g off ha
 | .fst::p,.pair a' b',m,x,b,cs,kY,l,g,off,hg,hl,hr,hc,ha=>by simp only[dP] at hg;simp only[cD] at hc;simp only[addrAt] at ha;simp only[Ty.size] at hl hr;refine Ov p hg (by rw[aH];omega) (λg o e=>?_) hc ha;have:=abk (a:=0) (b:=a'.size) (hr g o e) (by omega);rw[dZ,dX] at this;exact this
 | .snd::p,.pair a' b',m,x,b,cs,kY,l,g,off,hg,hl,hr,hc,ha=>by
  simp only[dP] at hg;simp only[cD] at hc;simp only[addrAt] at ha;simp only[Ty.size] at hl hr;refine Ov p hg (by rw[a8];omega) (λg o e=>?_) hc ha;cases l with
  |none=>simp at e
  |some q=>simp only[aS,ah,aG] at e;obtain⟨rfl,rfl⟩:=e;have:=abk (a:=a'.size) (b:=b'.size) (hr q.1 q.2 rfl) (by omega);rw[cB (by rw[a8];omega)] at this;exact this
 | .deref::p,.ptr t,m,x,b,cs,kY,l,g,off,hg,hl,hr,hc,ha=>by
  simp only[dP] at hg;rcases Y6 cs with⟨g1,ayv,rfl⟩ |⟨h1,h2⟩
  ·simp only[cD] at hc;simp only[addrAt] at ha;cases wc:rowAt w g1 ayv t.size with
   |none=>rw[wc] at hc;simp at hc
   |some c=>rw[wc] at hc ha;simp only[aL] at hc ha;exact Ov p hg (Lt wc).1 (λg o e=>by injection e with e;injection e with e1 e2;subst e1 e2;exact wc) hc ha
  rw[h1] at hc;cases hc
 | .idx i::p,.sl t,m,x,b,cs,kY,l,g,off,hg,hl,hr,hc,ha=>by
  simp only[dP] at hg;rcases aeI cs with⟨g1,ayv,n,c1,rfl⟩ |⟨h1,h2⟩
  ·simp only[cD] at hc;simp only[addrAt] at ha;cases wc:rowAt w g1 (ayv+i*t.size) t.size with
   |none=>rw[wc] at hc;simp at hc
   |some c=>rw[wc] at hc ha;simp only[aL] at hc ha;exact Ov p hg (Lt wc).1 (λg o e=>by injection e with e;injection e with e1 e2;subst e1 e2;exact wc) hc ha
  rw[h1] at hc;cases hc
theorem abl (hT:ke P Θ=true) (ht:Θ.is T t=true) (h:rowAt w g off t.size=some cs): ∃ v,(∀ w2,Ext w w2->(Instr.loadAt T (.pointer (some ⟨g,off,none⟩))).run P w2=.ok v w2)/\a7 t v cs:=by
 suffices hs:∀ w2,Ext w w2->∃ v,(Instr.loadAt T (.pointer (some ⟨g,off,none⟩))).run P w2=.ok v w2/\a7 t v cs by
  obtain⟨v,_,h2⟩:=hs w (Ext.refl w);refine⟨v,λw2 hw=>?_,h2⟩;obtain⟨v',k1,k2⟩:=hs w2 hw;rw[k1];unfold a7 at h2 k2;split at h2
  ·rename_i ha;rw[aA ha] at k2;rw[h2,k2]
  rename_i ha;rw[aq ha] at k2;rw[h2] at k2;injection k2 with k2;rw[k2]
 intro w2 MC;have h:rowAt w2 g off t.size=some cs:=by obtain⟨_,cur,T',fr,hw,_,_⟩:=Lt h;unfold rowAt at h ⊢;rw[MC g (dz hw)];exact h
 clear MC;revert h;generalize w2=w;intro h;obtain⟨hl,cur,T',fr,hw,hs,rfl⟩:=Lt h;obtain⟨inf,hi,sW,_⟩:=wX hT ht;have Rs:∀ j v,((cur.toList.drop off).take t.size)[j]?=some v->w.cell? ((⟨g,off,none⟩:Addr).add j)=some v:=by
  intro j v hj;rw[AT];unfold World.cell?;simp only[hw,Option.isSome_none,Bool.false_eq_true,c9];rw[bQ] at hj;split at hj
  ·rw[cG] at hj;simpa using hj
  cases hj
 have aDE:=ak1 hT ht w;simp only[Instr.loadAt,Instr.sureAddr,loadVar,a6,dk,aX,aDE];cases hb:isAgg t with
 |true=>refine⟨.agg ((cur.toList.drop off).take t.size).toArray,?_,by simp[a7,hb]⟩;have hlc:=oc (P:=P) (w:=w) ⟨g,off,none⟩ _ Rs;rw[hl] at hlc;simp only[dF,a6,sizeOf,typeInfo,rk,aX,hi,dk,sW,hlc]
 |false=>
 have h1:t.size=1:=by cases t<;>simp[isAgg] at hb<;>rfl
 rw[h1] at hl Rs ⊢;obtain⟨u,hu⟩:∃ u,(cur.toList.drop off).take 1=[u]:=by
  cases hx:(cur.toList.drop off).take 1 with
  |nil=>rw[hx] at hl;simp at hl
  |cons u r=>
  rw[hx] at hl;cases r with
  |nil=>exact⟨u,rfl⟩
  |cons _ _=>simp at hl
 refine⟨u,?_,by simp[a7,hb,hu]⟩;have:=Rs 0 u (by rw[hu];rfl);rw[Addr.add_zero'] at this;simp[load,Sem.run,this]
end Go.Pv
namespace Go.Pv
open List Int IntKind
variable {P:Program} {w w':World} {A A':Nat->Prop} {H:Nat->Value} {tm Nj:Nat->Value} {S S':St} {σ:Nat->Option Nat} {w0:World} {W0 Z:Nat->Prop} {a:Act} {own:Nat->Prop} {v:Value} {Θ:nh} {dst:Option Nat}
def anj (w:World) (A:Nat->Prop) (tm:Nat->Value) (S:St):Tgt->Value->Prop
 | .k b,v=>∃ cs,a7 (.ptr b.t) v cs/\K w A (.ptr b.t) b.x cs
 | .pl t s p,v=>∃ r ex,S.at s=.v r ex/\(open_ p ex->∃ lB g off,Ref tm S t s p r lB/\addrAt w p r.t lB none=some (g,off)/\v=.pointer (some ⟨g,off,none⟩))
theorem aqx (h:dp σ w0 W0 Z H S a w) {i:Nat} {t:Ty} {T:TypeId} {tag:Option Nat} {me:Md} {y:t.I} {ex:List Path} (hi:S.at i=.v ⟨.ptr t,.o T tag me,y⟩ ex): anj w (Av σ Z) (gV a) S (.pl t i [.deref]) (gV a i):=by
 refine⟨_,ex,hi,λho=>?_⟩;have hh:=h.holds i;rw[hi] at hh;obtain⟨cs,h1,h2⟩:=hh;simp only[M] at h2;rcases h2 with⟨hn,_⟩ |⟨hk,_⟩ |⟨T',aqy,me',g,cur,e,rfl,ht,hg,hw,hM⟩
 ·exact absurd hn ho.not_nil
 ·simp[Md.fu] at hk
 have hlen:=(rK t hM).1;refine⟨_,g,0,⟨⟨ex,hi,ho⟩,trivial,⟨_,rfl,rfl⟩,h1⟩,?_,by simpa[a7,isAgg] using h1.symm⟩;have hs:0+t.size<=cur.size:=by rw[←hlen];simp
 simp only[addrAt,eT hw hs,aL]
theorem ao1 (h:open_ (p++q) ex):open_ p ex:=λr hr s u e=>h r hr s (u++q) (by rw[e];simp)
theorem Ub {p:Path} {s:Step} {q:Path} {ex:List Path} (h:open_ (p++s::q) ex):[]∉TQ p ex:=λhm=>by have:=aaV.1 hm;rw[b6] at this;exact h p this s q rfl
theorem Ow (h:dp σ w0 W0 Z H S a w) (ho:S.pT Θ T x=some av) (e:S.RZ x av=some g):anj w (Av σ Z) (gV a) S g (a.eval x):=by
 have hh:=eU h ho;have Lu:∀ {t:Ty} {T:TypeId} {tag:Option Nat} {me:Md} {y:t.I} {ex:List Path} {i:Nat},av=.v ⟨.ptr t,.o T tag me,y⟩ ex->x=.tmp i->anj w (Av σ Z) (gV a) S (.pl t i [.deref]) (a.eval x):=by intro t T tag me y ex i e1 e2;subst e2;simp only[St.pT,ah] at ho;rw[e1] at ho;exact aqx h ho
 unfold St.RZ at e;split at e
 ·rename_i t m y;split at e
  ·injection e with e;subst e;obtain⟨cs,h1,h2⟩:=hh;exact⟨cs,h1,tJ _ rfl h2⟩
  ·injection e with e;subst e;exact Lu rfl rfl
  cases e
 ·split at e
  ·injection e with e;subst e;exact Lu rfl rfl
  cases e
 ·rename_i t s p;obtain⟨r,lB,cs,hr,hc,hm⟩:=hh;split at e
  ·rename_i t' y Y5;injection e with e;subst e;obtain⟨ex,b,kY,kF,k1,k2,k3,k4,hM,k5,k6,k7⟩:=u6 h hr;obtain⟨r',ex',q1,q2,q3⟩:=qg Y5;rw[k1] at q1;injection q1 with q1 q1';subst q1 q1';rw[k3] at q3;injection q3 with q3;subst q3;rw[k5] at hc;injection hc with hc;subst hc;simp only at k4;rw[←k4] at hm;exact⟨_,hm,tJ _ rfl k7⟩
  ·rename_i t' T' aqy me' y Y5;injection e with e;subst e;obtain⟨ex,b,kY,kF,k1,k2,k3,k4,hM,k5,k6,k7⟩:=u6 h hr;obtain⟨r',ex',q1,q2,q3⟩:=qg Y5;rw[k1] at q1;injection q1 with q1 q1';subst q1 q1';rw[k3] at q3;injection q3 with q3;subst q3;rw[k5] at hc;injection hc with hc;subst hc;simp only at k4;injection k4 with k4;subst k4;refine⟨r,ex,k1,λfL=>?_⟩;simp only[M] at k7;rcases k7 with⟨hn,_⟩ |⟨hk,_⟩ |⟨T',aqy,me',g,cur,e,rfl,ht,hg,hw,hM'⟩
   ·exact absurd hn (Ub fL)
   ·simp[Md.fu] at hk
   have hlen:=(rK _ hM').1;have hs:0+Ty.size t'<=cur.size:=(by rw[←hlen];simp);refine⟨lB,g,0,⟨⟨ex,k1,fL⟩,ue p [.deref] k3 hr.val trivial,⟨_,by rw[tK,k3];rfl,rfl⟩,hr.mat⟩,?_,by simpa[a7,isAgg] using hm.symm⟩;rw[(uf p [.deref] lB none k3).2,k5];simp only[aL,addrAt,eT hw hs]
  cases e
 ·rename_i t s p;injection e with e;subst e;obtain⟨r,lB,g,off,hr,hc,hm⟩:=hh;obtain⟨ex,k1,k2⟩:=hr.at_;exact⟨r,ex,k1,λ_=>⟨lB,g,off,hr,hc,hm⟩⟩
 cases e
theorem ah9 (h:dp σ w0 W0 Z H S a w) (ho:o.op=.nilCheck x) (e:R2 Θ S o.dst x=some (true,S')):xU P w0 W0 Z H S' a o.dst w (execOp a.eval o):=by
 unfold R2 at e;split at e
 ·rename_i av pU;split at e
  ·rename_i g hg;split at e
   ·rename_i r _ hr Y5;injection e with e;injection e with _ e;subst e;have hc:=MM h pU hr;have hl:=Ow h pU hg;have hp:(∃ ad,a.eval x=.pointer (some ad)):=by
     cases g with
     |k b=>obtain⟨cs,h1,h2⟩:=hl;simp only[K] at h2;obtain⟨g,off,cur,T,fr,rfl,_⟩:=h2;exact⟨_,by simpa[a7,isAgg] using h1.symm⟩
     |pl t s p=>
     obtain⟨r',ex,k1,k2⟩:=hl;simp only at Y5;split at Y5
     ·rename_i b hb;obtain⟨r2,ex2,q1,q2,q3⟩:=qg hb;rw[k1] at q1;injection q1 with q1 q1';subst q1 q1';obtain⟨lB,g,off,_,_,e3⟩:=k2 (rW q2);exact⟨_,e3⟩
     cases Y5
    obtain⟨ad,hp⟩:=hp;exact jo h (v:=a.eval x) (λw2 _=>by simp only[execOp,ho,hp];rfl) hc
   cases e
  cases e
 cases e
theorem ah' (hT:ke P Θ=true) (h:dp σ w0 W0 Z H S a w) (hl:anj w (Av σ Z) (gV a) S g v) (e:S.loadAt g=some r) (ht:Θ.is T g.ty=true): ∃ u,(∀ w2,Ext w w2->(Instr.loadAt T v).run P w2=.ok u w2)/\Holds w (Av σ Z) H (gV a) S (λ_=>False) r u:=by
 cases g with
 |k b=>
 simp only[St.loadAt,ah] at e;subst e;obtain⟨cs,h1,h2⟩:=hl;simp only[K] at h2;obtain⟨g,off,cur,T',fr,rfl,hg,hw,hs,hk⟩:=h2;obtain rfl:v=.pointer (some ⟨g,off,none⟩):=by simpa[a7,isAgg] using h1.symm
 obtain⟨u,k1,k2⟩:=abl hT ht (eT hw hs);exact⟨u,k1,_,k2,ua _ hk⟩
 |pl t s p=>
 simp only[St.loadAt] at e;obtain⟨r',ex,k1,k2⟩:=hl;split at e
 ·rename_i b hb;obtain⟨r2,ex2,q1,q2,q3⟩:=qg hb;rw[k1] at q1;injection q1 with q1 q1';subst q1 q1';obtain⟨lB,g,off,hr,ha,rfl⟩:=k2 (rW q2);obtain⟨ex',b',kY,kF,j1,j2,j3,j4,hM,j5,j6,j7⟩:=u6 h hr;rw[k1] at j1;injection j1 with j1 j1';subst j1';rw[q3] at j3;injection j3 with j3;subst j3;subst j4;have wc:=Ov p q3 (rK _ hM).1 (λg o e=>by cases e) j5 ha;obtain⟨u,l1,l2⟩:=abl hT ht wc;refine⟨u,l1,?_⟩;cases hk:b.m.fu with
  |true=>
  rw[hk] at e;simp only[ab] at e;split at e
  ·rename_i c hc;injection e with e;subst e;obtain⟨_,Lv,_,hM2⟩:=nk h hr j5 hc;have hcb:c=b:=by obtain⟨r3,ex3,p1,p2,p3⟩:=MN hc;rw[k1] at p1;injection p1 with p1 p1';subst p1;rw[q3] at p3;injection p3 with p3;exact p3.symm
   subst hcb;exact⟨_,l2,ua _ (tJ _ hk hM2)⟩
  cases e
  |false=>rw[hk] at e;simp only[ae,ah] at e;subst e;exact⟨r',lB,kY,hr,j5,l2⟩
 cases e
theorem avc (hT:ke P Θ=true) (h:dp σ w0 W0 Z H S a w) (ho:o.op=.load T x) (e:tY Θ S o.dst T x=some (true,S')):xU P w0 W0 Z H S' a o.dst w (execOp a.eval o):=by
 unfold tY at e;split at e
 ·rename_i av pU;split at e
  ·rename_i g hg;split at e
   ·rename_i r hr;have hl:=Ow h pU hg;cases hc:(ahN g.ty r&&Θ.is T g.ty) with
    |false=>rw[hc] at e;cases e
    |true=>rw[hc] at e;replace hc:=((ai _ _).mp hc).2;simp only[ab,ah,aG,cp] at e;subst e;obtain⟨u,h1,h2⟩:=ah' hT h hl hr hc;refine jo h (v:=u) (λw2 hw=>?_) h2;simp only[execOp,ho,a6,h1 w2 hw];rfl
   cases e
  cases e
 cases e
end Go.Pv
namespace Go.Pv
open List Int IntKind
variable {P:Program} {w w':World} {A A':Nat->Prop} {H:Nat->Value} {tm Nj:Nat->Value} {S S':St} {σ:Nat->Option Nat} {w0:World} {W0 Z:Nat->Prop} {a:Act} {own:Nat->Prop} {v:Value} {Θ:nh} {dst:Option Nat}
theorem AU:∀ (p:Path) {t:Ty} {m:Md} {x:t.I} {b:TV},m.fu=true->dP p t m x=some b->b.m.fu=true
 |[],t,m,x,b,hk,hg=>by simp only[dP,ah] at hg;subst hg;exact hk
 | .deref::p,.ptr t,m,x,b,hk,hg=>by simp only[dP] at hg;exact AU p (MA hk) hg
 | .fst::p,.pair _ _,m,x,b,hk,hg=>by simp only[dP] at hg;exact AU p (ahO hk) hg
 | .snd::p,.pair _ _,m,x,b,hk,hg=>by simp only[dP] at hg;exact AU p (ahP hk) hg
 | .idx i::p,.sl t,m,x,b,hk,hg=>by simp only[dP] at hg;exact AU p (MA hk) hg
theorem xV:∀ (p:Path) {t:Ty} {m:Md} {x:t.I} {b:TV},cu p=true->dP p t m x=some b->valid p t x
 |[],_,_,_,_,_,_=>trivial
 | .fst::p,.pair _ _,m,x,b,h,hg=>by simp only[dP] at hg;simp only[valid];exact xV p (by simpa[cu] using h) hg
 | .snd::p,.pair _ _,m,x,b,h,hg=>by simp only[dP] at hg;simp only[valid];exact xV p (by simpa[cu] using h) hg
theorem MO:∀ (p:Path) {t:Ty} {m:Md} {x:t.I} {b:TV},cu p=true->dP p t m x=some b->vX p t=some b.t
 |[],_,_,_,_,_,hg=>by simp only[dP,ah] at hg;subst hg;rfl
 | .fst::p,.pair _ _,m,x,b,h,hg=>by simp only[dP] at hg;simp only[vX];exact MO p (by simpa[cu] using h) hg
 | .snd::p,.pair _ _,m,x,b,h,hg=>by simp only[dP] at hg;simp only[vX];exact MO p (by simpa[cu] using h) hg
theorem AW:∀ (p q:Path),cu p=true->cu q=true->cu (p++q)=true
 |[],_,_,h=>h
 | .fst::p,q,h,h'=>by simp only[bF,cu];exact AW p q (by simpa[cu] using h) h'
 | .snd::p,q,h,h'=>by simp only[bF,cu];exact AW p q (by simpa[cu] using h) h'
theorem HG:∀ n,cu (List.replicate n .snd)=true
 |0=>rfl
 |n+1=>by rw[List.replicate_succ];simp only[cu];exact HG n
theorem zR (i n:Nat):cu (J0 i n)=true:=by
 unfold J0;cases Nat.beq (i+1) n<;>cases Nat.beq n 1<;>simp only[ab,ae]
 ·exact AW _ _ (HG _) rfl
 ·exact AW _ _ (HG _) rfl
 ·exact HG _
 rfl
theorem ayw {t:Ty} {x:t.I} {p:Path} {b:TV} {cs:List Value} {v:Value} (hm:a7 (.ptr t) v cs) (h:K w A (.ptr t) x cs) (hp:cu p=true) (hg:dP p t .k x=some b): ∃ g off,v=.pointer (some ⟨g,off,none⟩)/\K w A (.ptr b.t) b.x [.pointer (some ⟨g,off+cE p t,none⟩)]:=by
 simp only[K] at h;obtain⟨g,off,cur,T',fr,rfl,hA,hw,hs,hk⟩:=h;refine⟨g,off,by simpa[a7,isAgg] using hm.symm,?_⟩;have hl:=(Fq t hk).1;obtain⟨kY,kF,k1,k2,k3⟩:=focus (w:=w) (Wr:=A) (H:=λ_=>undef) (ow:=λ_=>False) (hs:=[]) p (ua t hk) (λ_ h=>by simp at h) (xV p hp hg) hg
 rw[rL p hp hg hl] at k1;injection k1 with k1;subst k1;have hf:=q7 p hp hg;simp only[K];refine⟨g,off+cE p t,cur,T',fr,rfl,hA,hw,by omega,?_⟩;have:=tJ _ (AU p rfl hg) k3;rw[iL,ni,ef,kM (by omega)] at this;exact this
theorem Uc {p:Path} {t:Ty} {m:Md} {x:t.I} {b:TV} (hp:p≠[]) (h:cu p=true) (hg:dP p t m x=some b):∃ a' b',t=.pair a' b':=by
 cases p with
 |nil=>exact absurd rfl hp
 |cons s p=>cases s<;>cases t<;>simp_all [dP,cu]
theorem aqz (h:i<n):J0 i n≠[]:=by
 unfold J0;cases hb:Nat.beq (i+1) n with
 |false=>simp
 |true=>
 cases hc:Nat.beq n 1 with
 |true=>simp
 |false=>
 simp only[ab,ae];have h1:=aw hb;have h2:=Nat.ne_of_beq_eq_false hc;cases i with
 |zero=>omega
 |succ i=>simp[List.replicate_succ]
theorem Ud (hT:ke P Θ=true) (h:dp σ w0 W0 Z H S a w) (ho:o.op=.fieldAddr T x f) (e:wa Θ S o.dst T x f=some (true,S')):C8 P w0 W0 Z H S' a o.dst w (execOp a.eval o):=by
 unfold wa at e;split at e
 ·rename_i av i pU hi;cases gU:Nat.blt f i.fs.length with
  |false=>rw[gU] at e;cases e
  |true=>
   rw[gU] at e
   simp only[ab] at e
   have hf:f<i.fs.length:=jE (bH gU)
   obtain⟨_,hu,Sc⟩:=kP hT hi
   -- the address of the field
   have run:∀ (w2:World) (g off:Nat) (b:TV) (t:Ty) (m:Md) (y:t.I),i.ty=t->dP (J0 f i.fs.length) t m y=some b->
     (Instr.fieldAt T (.pointer (some ⟨g,off,none⟩)) f).run P w2=.ok (.pointer (some ⟨g,off+cE (J0 f i.fs.length) t,none⟩)) w2:=by
    intro w2 g off b t m y rS hg
    have xB:∃ a' b',i.ty=.pair a' b':=by
     subst rS
     exact Uc (aqz hf) (zR _ _) hg
    obtain⟨a',b',hp⟩:=xB
    obtain⟨fs,hfs,Xy,hfo,_⟩:=Iw hu hp
    rw[Sc] at hfs
    have hlen:i.fs.length=fs.size:=by rw[←Xy];simp
    obtain⟨fl,aA'⟩:∃ fl,fs[f]?=some fl:=⟨fs[f]'(by omega),by simp[show f<fs.size from by omega]⟩
    obtain⟨tf,h1,h2,h3,h4⟩:=zQ hfo f fl (by simpa using aA')
    rw[aW,←hlen] at h1 h3
    subst rS
    rw[MO _ (zR _ _) hg] at h1
    injection h1 with h1
    obtain⟨inf,k1,k2,_⟩:=wX hT h2
    simp only[Instr.fieldAt,a6,bc hfs,aX,aA',Instr.sureAddr,dk,fieldPlace,sizeOf,typeInfo,rk,k1,k2]
    rw[aq (by omega)]
    simp only[dk,aX,AT,h3]
   split at e
   ·rename_i t m y hg
    cases rS:decide (i.ty=t) with
    |false=>rw[rS] at e;cases e
    |true=>
     rw[rS] at e
     simp only[ab] at e
     split at e
     ·rename_i b hb
      injection e with e;injection e with _ e;subst e
      obtain⟨cs,h1,h2⟩:=Ow h pU hg
      obtain⟨g',off,hv,hk⟩:=ayw h1 h2 (zR _ _) hb
      refine im h (v:=.pointer (some ⟨g',off+cE (J0 f i.fs.length) t,none⟩)) (λw2=>?_) ⟨[_],by simp[a7,isAgg],ua (.ptr b.t) hk⟩
      simp only[execOp,ho,hv,a6,run w2 g' off b t .k y (by simpa using rS) hb]
      rfl
     ·cases e
   ·rename_i t s p hg
    cases rS:decide (i.ty=t) with
    |false=>rw[rS] at e;cases e
    |true=>
     rw[rS] at e
     simp only[ab] at e
     split at e
     ·rename_i b hb
      injection e with e;injection e with _ e;subst e
      obtain⟨r,ex,k1,k2⟩:=Ow h pU hg
      obtain⟨r2,ex2,q1,q2,q3⟩:=qg hb
      rw[k1] at q1
      injection q1 with q1 q1'
      subst q1 q1'
      have fL:=rW q2
      obtain⟨lB,g',off,hr,ha,hv⟩:=k2 (ao1 fL)
      obtain⟨ex',b',kY,kF,j1,j2,j3,j4,hM,j5,j6,j7⟩:=u6 h hr
      rw[tK,j3] at q3
      simp only[aL] at q3
      refine im h (v:=.pointer (some ⟨g',off+cE (J0 f i.fs.length) t,none⟩)) (λw2=>?_) ⟨r,lB,g',off+cE (J0 f i.fs.length) t,⟨⟨ex,k1,fL⟩,ue p _ j3 hr.val (xV _ (zR _ _) q3),⟨b,by rw[tK,j3];exact q3,rfl⟩,hr.mat⟩,?_,rfl⟩
      ·subst j4
       simp only[execOp,ho,hv,a6,run w2 g' off b b'.t b'.m b'.x (by simpa using rS) q3]
       rfl
      ·rw[(uf p _ lB none j3).2,j5,ha]
       simp only[aL]
       rw[AM _ (zR _ _) q3,j4]
     ·cases e
   ·cases e
 cases e
theorem ank {α:Type} (xs:List α) (i:Nat) (d:α) (h:i<xs.length):getD xs i d=xs[i]:=by simp[aF,aU h]
theorem J9 (hT:ke P Θ=true) {T:TypeId} {t:Ty} {g off len c:Nat} {k:IntKind} {n:Int} (ht:Θ.is T (.sl t)=true) (h0:0<=n) (h1:n<(len:Int)): (Instr.indexAt T (.slice (some ⟨g,off,none⟩) len c) (.int k n)).run P w=.ok (.pointer (some ⟨g,off+n.toNat*t.size,none⟩)) w:=by obtain⟨i,hi,rS⟩:=pC ht;obtain⟨_,hu,Sc⟩:=kP hT hi;obtain⟨u1,u2,_⟩:=Gs hu rS;rw[Sc] at u1;obtain⟨inf,k1,k2,_⟩:=wX hT u2;simp[Instr.indexAt,asIntOf,bc u1,h0,h1,sizeOf,typeInfo,rk,k1,k2,AT]
theorem aqA {t:Ty} {xs:List t.I} {v:Value} {cs:List Value} {n:Nat} (hm:a7 (.sl t) v cs) (h:K w A (.sl t) xs cs) (hn:n<xs.length): ∃ g off c,v=.slice (some ⟨g,off,none⟩) xs.length c/\K w A (.ptr t) (getD xs n t.z) [.pointer (some ⟨g,off+n*t.size,none⟩)]:=by
 simp only[K] at h;obtain⟨X,c,rfl,hc,h⟩:=h;obtain⟨g,off,cur,T',fr,rfl,hA,hw,hs,hk⟩:=h (by omega);refine⟨g,off,c,by simpa[a7,isAgg] using hm.symm,?_⟩;simp only[K];have hb:off+n*t.size+t.size<=cur.size:=by have:=aD t.size (show n+1<=xs.length from hn);rw[bg,cM] at this;omega
 exact⟨g,_,cur,T',fr,rfl,hA,hw,hb,by rw[ank _ _ _ hn];exact hk n hn⟩
theorem Ue (hT:ke P Θ=true) (h:dp σ w0 W0 Z H S a w) {o:Oper} {T:TypeId} {x ix:Operand} (ho:o.op=.indexAddr T x ix) (e:iM Θ S o.dst T x ix=some (true,S')):C8 P w0 W0 Z H S' a o.dst w (execOp a.eval o):=by
 unfold iM at e;split at e
 ·rename_i t m xs ex n pU hn;obtain⟨k,hk⟩:=za h hn;cases hc:Θ.is T (.sl t) with
  |false=>rw[hc] at e;cases e
  |true=>
  rw[hc] at e;simp only[ab] at e;split at e
  ·injection e with e;injection e with e1 e;subst e;obtain⟨b1,b2⟩:=Ou e1;obtain⟨cs,h1,h2⟩:=eU h pU;have hK:=tJ _ rfl h2;obtain⟨g,off,c,hv,hk2⟩:=aqA (n:=n.toNat) h1 hK (by have b2':n<(length xs:Int):=b2;show n.toNat<length xs;omega);refine im h (v:=.pointer (some ⟨g,off+n.toNat*t.size,none⟩)) (λw2=>?_) ⟨[_],by simp[a7,isAgg],ua (.ptr t) hk2⟩;simp only[execOp,ho,hv,hk,a6,J9 hT hc b1 b2];rfl
  ·rename_i T' tag me j;split at e
   ·rename_i b hb;injection e with e;injection e with e1 e;subst e;obtain⟨b1,b2⟩:=Ou e1;have nM:S.at j=.v ⟨.sl t,.o T' tag me,xs⟩ ex:=by simpa[St.pT] using pU
    obtain⟨r2,ex2,q1,q2,q3⟩:=qg hb;rw[nM] at q1;injection q1 with q1 q1';subst q1 q1';have fL:=rW q2;obtain⟨cs,h1,h2⟩:=eU h pU;simp only[M] at h2;rcases h2 with⟨xB,_⟩ |⟨uI,_⟩ |⟨T2,aia,me2,X,c,e2,rfl,hcc,ao2,h2⟩
    ·exact absurd xB fL.not_nil
    ·simp[Md.fu] at uI
    have hv:a.eval (.tmp j)=.slice X xs.length c:=(by simpa[a7,isAgg] using h1.symm);rcases h2 with⟨rfl,_⟩ |⟨g,cur,τ,rfl,hg,hw,sW,hm,hj⟩
    ·simp at b2;omega
    have gU:n.toNat<xs.length:=(by omega);have hbound:0+n.toNat*t.size+t.size<=cur.size:=(by have h1:=aD t.size (show n.toNat+1<=xs.length from gU);have h2:=aD t.size hcc;rw[bg,cM] at h1;omega);refine im h (v:=.pointer (some ⟨g,0+n.toNat*t.size,none⟩)) (λw2=>?_) ⟨_,[.slice (some ⟨g,0,none⟩) xs.length c],g,0+n.toNat*t.size,⟨⟨ex,nM,fL⟩,⟨gU,trivial⟩,⟨_,rfl,rfl⟩,h1⟩,?_,rfl⟩
    ·simp only[execOp,ho,hv,hk,a6,J9 hT hc b1 b2];rfl
    simp only[addrAt,eT hw hbound,aL]
   cases e
  cases e
 ·rename_i t s p n pU hn;obtain⟨k,hk⟩:=za h hn;cases hc:Θ.is T (.sl t) with
  |false=>rw[hc] at e;cases e
  |true=>
  rw[hc] at e;simp only[ab] at e;obtain⟨r,lB,cs,hr,C1,hm⟩:=eU h pU;obtain⟨ex,b,kY,kF,j1,j2,j3,j4,hM,j5,j6,j7⟩:=u6 h hr;rw[C1] at j5;injection j5 with j5;subst j5;split at e
  ·rename_i t' xs Y5;injection e with e;injection e with e1 e;subst e;obtain⟨b1,b2⟩:=Ou e1;obtain⟨r2,ex2,q1,q2,q3⟩:=qg Y5;rw[j1] at q1;injection q1 with q1 q1';subst q1 q1';rw[j3] at q3;injection q3 with q3;subst q3;injection j4 with j4;subst j4;have hK:=tJ _ rfl j7;obtain⟨g,off,c,hv,hk2⟩:=aqA (n:=n.toNat) hm hK (by have b2':n<(length xs:Int):=b2;show n.toNat<length xs;omega);refine im h (v:=.pointer (some ⟨g,off+n.toNat*Ty.size t',none⟩)) (λw2=>?_) ⟨[_],by simp[a7,isAgg],ua (.ptr _) hk2⟩;simp only[execOp,ho,hv,hk,a6,J9 hT hc b1 b2];rfl
  ·rename_i t' T' tag me xs Y5;split at e
   ·rename_i b2' hb;injection e with e;injection e with e1 e;subst e;obtain⟨b1,b2⟩:=Ou e1;obtain⟨r2,ex2,q1,q2,q3⟩:=qg Y5;rw[j1] at q1;injection q1 with q1 q1';subst q1 q1';rw[j3] at q3;injection q3 with q3;subst q3;injection j4 with j4;subst j4;obtain⟨r3,ex3,p1,p2,p3⟩:=qg hb;rw[j1] at p1;injection p1 with p1 p1';subst p1 p1';have fL:=rW p2;simp only[M] at j7;rcases j7 with⟨xB,_⟩ |⟨uI,_⟩ |⟨T2,aia,me2,X,c,e2,rfl,hcc,ao2,h2⟩
    ·exact absurd xB (Ub fL)
    ·simp[Md.fu] at uI
    have hv:a.eval x=.slice X (length xs) c:=(by simpa[a7,isAgg] using hm.symm);rcases h2 with⟨rfl,_⟩ |⟨g,cur,τ,rfl,hg,hw,sW,hm',hj⟩
    ·simp at b2;omega
    have gU:n.toNat<length xs:=(by omega);have hbound:0+n.toNat*Ty.size t'+Ty.size t'<=cur.size:=(by have h1:=aD (Ty.size t') (show n.toNat+1<=length xs from gU);have h2:=aD (Ty.size t') hcc;rw[bg,cM] at h1;omega);refine im h (v:=.pointer (some ⟨g,0+n.toNat*Ty.size t',none⟩)) (λw2=>?_) ⟨r,lB,g,0+n.toNat*Ty.size t',⟨⟨ex,j1,fL⟩,ue p _ j3 hr.val ⟨gU,trivial⟩,⟨_,by rw[tK,j3];rfl,rfl⟩,hr.mat⟩,?_,rfl⟩
    ·simp only[execOp,ho,hv,hk,a6,J9 hT hc b1 b2];rfl
    rw[(uf p _ lB none j3).2,C1];simp only[aL,addrAt,eT hw hbound]
   cases e
  cases e
 cases e
end Go.Pv
namespace Go.Pv
open List Int IntKind
variable {P:Program} {w w':World} {A A':Nat->Prop} {H:Nat->Value} {tm Nj:Nat->Value} {S S':St} {σ:Nat->Option Nat} {w0:World} {W0 Z:Nat->Prop} {a:Act} {own:Nat->Prop} {v:Value} {Θ:nh} {dst:Option Nat}
theorem PR {k:IntKind} {i:Int} {y:Nat} {code:BoundsCode} (h0:0<=i) (h1:i<=y):(Instr.sliceBound (.int k i) y code).run P w=.ok i.toNat w:=by simp[Instr.sliceBound,asIntOf,h0,h1]
theorem abm {sl:Bool} {len cap:Nat} {lo hi:Option Value} {l h:Int} (hlo:(lo=none/\l=0)∨∃ k,lo=some (.int k l)) (hhi:(hi=none/\h=len)∨∃ k,hi=some (.int k h)) (h0:0<=l) (h1:l<=h) (h2:h<=len) (h3:len<=cap):(Instr.sliceBounds sl len cap lo hi none).run P w=.ok (l.toNat,h.toNat,cap) w:=by
 have e1:∀ k code,(Instr.sliceBound (.int k l) h.toNat code).run P w=.ok l.toNat w:=λk code=>PR h0 (by omega);have e2:∀ k code,(Instr.sliceBound (.int k h) cap code).run P w=.ok h.toNat w:=λk code=>PR (by omega) (by omega);unfold Instr.sliceBounds;rcases hlo with⟨rfl,rfl⟩ |⟨k,rfl⟩<;>rcases hhi with⟨rfl,rfl⟩ |⟨k',rfl⟩
 ·simp
 ·simp[e2]
 ·have Uf:∀ k code,(Instr.sliceBound (.int k l) len code).run P w=.ok l.toNat w:=λk code=>PR h0 (by omega);simp[Uf]
 simp[e1,e2]
theorem zS (h:dp σ w0 W0 Z H S a w) (e:xz Θ S d x=some n):(x.map a.eval=none/\n=d)∨∃ k,x.map a.eval=some (.int k n):=by
 cases x with
 |none=>simp only[xz,ah] at e;exact .inl ⟨rfl,e.symm⟩
 |some x=>obtain⟨k,hk⟩:=za h e;exact .inr ⟨k,by simp[hk]⟩
theorem aib (hT:ke P Θ=true) (h:dp σ w0 W0 Z H S a w) {o:Oper} {T:TypeId} {x:Operand} {lo hi mx:Option Operand} (ho:o.op=.slice T x lo hi mx) (e:qZ Θ S o.dst T x lo hi mx=some (true,S')):C8 P w0 W0 Z H S' a o.dst w (execOp a.eval o):=by
 unfold qZ at e;split at e
 ·rename_i av m s l pU hrd hl;split at e
  ·rename_i hh hhi;cases hc:Θ.is T .str with
   |false=>rw[hc] at e;cases e
   |true=>rw[hc] at e;simp only[ab,ah,aG,ai,ax] at e;obtain⟨⟨⟨b1,b2⟩,b3⟩,e⟩:=e;subst e;obtain⟨cs,h1,h2,_⟩:=qw h hrd;have hv:=qO h1 h2;obtain⟨i,hi',rS⟩:=pC hc;obtain⟨_,hu,Sc⟩:=kP hT hi';have PO:=MK hu rS;rw[Sc] at PO;refine im h (v:=.string (s.extract l.toNat hh.toNat)) (λw2=>?_) (aeG _);have hb:=abm (P:=P) (w:=w2) (sl:=false) (zS h hl) (zS h hhi) b1 b2 b3 (aR _);simp[execOp,ho,hv,Instr.sliceAt,Instr.slice,bc PO,hb]
  cases e
 ·rename_i av t m xs l pU hrd hl;cases hc:Θ.is T (.sl t) with
  |false=>rw[hc] at e;cases e
  |true=>
  rw[hc] at e;simp only[ab] at e;obtain⟨i,hi',rS⟩:=pC hc;obtain⟨_,hu,Sc⟩:=kP hT hi';obtain⟨u1,u2,_⟩:=Gs hu rS;rw[Sc] at u1;obtain⟨inf,q1,q2,_⟩:=wX hT u2;obtain⟨cs,h1,h2,h3⟩:=qw h hrd;obtain⟨X,c,hv,wS,hlc⟩:=Ix h1 h2;have run:∀ (hh:Int),xz Θ S (xs.length:Int) hi=some hh->mx=none->0<=l->l<=hh->hh<=(xs.length:Int)->
    ∀ w2,(execOp a.eval o).run P w2=.ok (.value (.slice (if c=l.toNat then X else X.map (·.add (l.toNat*t.size))) (hh.toNat - l.toNat) (c - l.toNat))) w2:=by
   intro hh hhi hmx b1 b2 b3 w2
   subst hmx
   have hb:=abm (P:=P) (w:=w2) (sl:=true) (zS h hl) (zS h hhi) b1 b2 b3 hlc
   simp[execOp,ho,hv,Instr.sliceAt,Instr.slice,bc u1,hb,sizeOf,typeInfo,rk,q1,q2]
  split at e
  ·rename_i _ hh hhi;split at e
   ·simp only[ah,aG,ai,ax] at e;obtain⟨⟨⟨b1,b2⟩,b3⟩,e⟩:=e;subst e;have hK:=h3 rfl;subst wS;exact im h (run hh hhi rfl b1 b2 b3) ⟨[_],by simp[a7,isAgg],ua (.sl t) (anh hK (by omega) (by omega))⟩
   ·rename_i b ex i _;simp only[ah,aG,ai,ax] at e;obtain⟨⟨⟨b1,b2⟩,b3⟩,e⟩:=e;subst e;have nM:S.at i=.v b ex:=by simpa[St.pT] using pU
    unfold St.rd at hrd;rw[pU] at hrd;cases ex with
    |cons _ _=>simp[St.PK] at hrd
    |nil=>simp only[St.PK,ah] at hrd;subst hrd;subst wS;refine im h (run hh hhi rfl b1 b2 b3) ⟨_,_,t,X,length xs,c,⟨⟨[],nM,λq hq=>by simp at hq⟩,trivial,⟨_,rfl,rfl⟩,h1⟩,rfl,rfl,by omega,by omega,rfl⟩
   ·rename_i _ s p hm;simp only[ah,aG,ai,ax] at e;obtain⟨⟨⟨b1,b2⟩,b3⟩,e⟩:=e;subst e;obtain⟨r,lB,kY,hr,C1,hmm⟩:=eU h pU;unfold St.rd at hrd;rw[pU] at hrd;simp only[St.PK] at hrd;obtain⟨Qg,_⟩:=nk h hr C1 hrd;simp only at Qg;subst Qg;obtain rfl:=oP h1 hmm;subst wS;refine im h (run hh hhi rfl b1 b2 b3) ⟨r,lB,t,X,length xs,c,hr,rfl,C1,by omega,by omega,rfl⟩
   cases e
  ·rename_i _ hh z ii hhi aqB;split at e
   ·rename_i c' hx hz;simp only[ah,aG,ai,ax] at e;obtain⟨⟨⟨rfl,rfl⟩,rfl⟩,e⟩:=e;subst e;obtain⟨kz,hkz⟩:=za h hz;refine im h (v:=.slice X 0 0) (λw2=>?_) ⟨[.slice X 0 0],by simp[a7,isAgg],?_⟩
    ·have hl':=zS h hl;have hh':=zS h hhi;have hb:(Instr.sliceBounds true xs.length c (lo.map a.eval) (some (a.eval hx)) (some (.int kz 0))).run P w2=.ok (0,0,0) w2:=by
      have e0:∀ k y code,(Instr.sliceBound (.int k 0) y code).run P w2=.ok 0 w2:=λk y code=>PR (by omega) (by omega);have hh2:∃ k,a.eval hx=.int k 0:=by
       rcases hh' with⟨hh',_⟩ |⟨k,hh'⟩
       ·simp at hh'
       exact⟨k,by simpa using hh'⟩
      obtain⟨k2,hk2⟩:=hh2;unfold Instr.sliceBounds;rcases hl' with⟨hl',_⟩ |⟨k1,hl'⟩<;>rw[hl',hk2]<;>simp[e0]
     simp[execOp,ho,hv,Instr.sliceAt,Instr.slice,bc u1,hkz,hb,sizeOf,typeInfo,rk,q1,q2]
    simp only[M];exact .inr (.inr ⟨_,_,_,X,0,rfl,rfl,aR _,λh hh=>(by cases hh),.inl (by simp)⟩)
   cases e
  cases e
 cases e
end Go.Pv
namespace Go.Pv
open List Int IntKind
variable {P:Program} {w w':World} {A A' Wr:Nat->Prop} {H:Nat->Value} {tm Nj:Nat->Value} {S S' S1:St} {σ:Nat->Option Nat} {w0:World} {W0 Z:Nat->Prop} {a:Act} {own:Nat->Prop} {v:Value} {Θ:nh} {dst:Option Nat}
theorem aeJ:∀ (p:Path) {t:Ty} {m:Md} {x:t.I} {cs:List Value} {ow:Nat->Prop} {hs:List Path} {b:TV},M w Wr H t m x cs ow hs->open_ p hs->valid p t x->dP p t m x=some b->b.m.fu=false-> ∃ kY kF,cD w p t cs=some kY/\(∀ g,kF g->ow g)/\M w Wr H b.t b.m b.x kY kF (TQ p hs)/\M w Wr H t m x cs (λg=>ow g/\ ¬kF g) (hs++[p])
 |[],t,m,x,cs,ow,hs,b,h,ho,hv,hg,hk=>by
  simp only[dP,ah] at hg;subst hg;refine⟨cs,ow,rfl,λ_ h=>h,h,?_⟩;simp only at hk;have AI:=rK t h;cases t<;>simp only[M] at h ⊢<;>first
   |(rw[hk] at h;exact absurd h.1 (by simp))
   |(exact .inl ⟨by simp,hk,AI⟩)
   |(
     rcases h with⟨_,_,h⟩ |⟨uI,_⟩ |⟨T,tag,me,A,c,_,rfl,_⟩
     ·exact .inl ⟨by simp,hk,h⟩
     ·rw[hk] at uI;cases uI
     ·exact .inl ⟨by simp,hk,A,c,rfl⟩)
 | .deref::p,.ptr t,m,x,cs,ow,hs,b,h,ho,hv,hg,hk=>by
  simp only[dP] at hg;simp only[valid] at hv;simp only[M] at h;rcases h with⟨hn,_⟩ |⟨uI,h⟩ |⟨T,tag,me,g,cur,rfl,rfl,ht,Ni,hw,h⟩
  ·exact absurd hn ho.not_nil
  ·rw[AU p (MA uI) hg] at hk;cases hk
  have hlen:=(rK t h).1;obtain⟨kY,kF,h1,h2,h3,h4⟩:=aeJ p h ho.sub hv hg hk;have sW:0+t.size<=cur.size:=(by rw[←hlen];simp);refine⟨kY,kF,?_,λg hg=>(h2 g hg).1,h3,?_⟩
  ·simp only[cD,eT hw sW,aL,dX];rw[cB (by omega)];exact h1
  simp only[M];exact .inr (.inr ⟨T,tag,me,g,cur,rfl,rfl,ht,⟨Ni,λhx=>(h2 g hx).2 rfl⟩,hw,ca (cR.refl _ _) t (λ_ _ _=>rfl) (λg' dU _=>⟨⟨dU.1.1,dU.2⟩,dU.1.2⟩) (λq hq=>by
   rcases bd.1 hq with hq |hq
   ·exact n9.2 (eQ _ (n9.1 hq))
   ·rw[bu.1 hq];exact n9.2 (mX _ (by simp))) h4⟩)
 | .fst::p,.pair a b',m,x,cs,ow,hs,b,h,ho,hv,hg,hk=>by
  simp only[dP] at hg;simp only[valid] at hv;simp only[M] at h;rcases h with⟨hn,_⟩ |⟨uI,h⟩ |⟨ma,mb,c0,c1,s,rfl,rfl,h0,h1⟩
  ·exact absurd hn ho.not_nil
  ·rw[AU p (ahO uI) hg] at hk;cases hk
  obtain⟨kY,kF,k1,k2,k3,k4⟩:=aeJ p h0 ho.sub hv hg hk;refine⟨kY,kF,by simp only[cD];rw[←(rK a h0).1,eh];exact k1,λg hg=>(k2 g hg).1,k3,?_⟩;simp only[M];refine .inr (.inr ⟨ma,mb,c0,c1,s,rfl,rfl,ca (cR.refl _ _) a (λ_ _ _=>rfl) (λg' dU _=>⟨⟨dU.1.1,dU.2⟩,dU.1.2⟩) (λq hq=>?_) k4,ca (cR.refl _ _) b' (λ_ _ _=>rfl) (λg' dU _=>⟨⟨dU.1,λhx=>dU.2 (k2 g' hx).2⟩,dU.2⟩) (Ip (λq hq=>eQ _ hq)) h1⟩);rcases bd.1 hq with hq |hq
  ·exact n9.2 (eQ _ (n9.1 hq))
  rw[bu.1 hq];exact n9.2 (mX _ (by simp))
 | .snd::p,.pair a b',m,x,cs,ow,hs,b,h,ho,hv,hg,hk=>by
  simp only[dP] at hg;simp only[valid] at hv;simp only[M] at h;rcases h with⟨hn,_⟩ |⟨uI,h⟩ |⟨ma,mb,c0,c1,s,rfl,rfl,h0,h1⟩
  ·exact absurd hn ho.not_nil
  ·rw[AU p (ahP uI) hg] at hk;cases hk
  obtain⟨kY,kF,k1,k2,k3,k4⟩:=aeJ p h1 ho.sub hv hg hk;refine⟨kY,kF,by simp only[cD];rw[←(rK a h0).1,dy];exact k1,λg hg=>(k2 g hg).1,k3,?_⟩;simp only[M];refine .inr (.inr ⟨ma,mb,c0,c1,s,rfl,rfl,ca (cR.refl _ _) a (λ_ _ _=>rfl) (λg' dU _=>⟨⟨dU.1,λhx=>(k2 g' hx).2 dU.2⟩,dU.2⟩) (Ip (λq hq=>eQ _ hq)) h0,ca (cR.refl _ _) b' (λ_ _ _=>rfl) (λg' dU _=>⟨⟨dU.1.1,dU.2⟩,dU.1.2⟩) (λq hq=>?_) k4⟩);rcases bd.1 hq with hq |hq
  ·exact n9.2 (eQ _ (n9.1 hq))
  rw[bu.1 hq];exact n9.2 (mX _ (by simp))
 | .idx i::p,.sl t,m,xs,cs,ow,hs,b,h,ho,hv,hg,hk=>by
  simp only[dP] at hg;simp only[valid] at hv;obtain⟨hi,hv⟩:=hv;have sB:getD xs i t.z=xs[i]:=ank _ _ _ hi;simp only[M] at h;rcases h with⟨hn,_⟩ |⟨uI,h⟩ |⟨T,tag,me,X,c,rfl,rfl,hc,ht,h⟩
  ·exact absurd hn ho.not_nil
  ·rw[AU p (MA uI) hg] at hk;cases hk
  rcases h with⟨rfl,_⟩ |⟨g,cur,τ,rfl,Ni,hw,sW,hm,h⟩
  ·simp at hi
  have hbound:0+i*t.size+t.size<=cur.size:=(by have h1:=aD t.size (show i+1<=xs.length from hi);have h2:=aD t.size hc;rw[bg,cM] at h1;omega);have hM:=h i hi;rw[←sB] at hM;obtain⟨kY,kF,h1,h2,h3,h4⟩:=aeJ p hM ho.sub hv hg hk;refine⟨kY,kF,by simp only[cD,eT hw hbound,aL];rw[aW];exact h1,λg hg=>(h2 g hg).1,h3,?_⟩;simp only[M];refine .inr (.inr ⟨T,tag,me,some ⟨g,0,none⟩,c,rfl,rfl,hc,ht,.inr ⟨g,cur,τ,rfl,⟨Ni,λhx=>(h2 g hx).2.1 rfl⟩,hw,sW,hm,λj hj=>?_⟩⟩);by_cases HE:j=i
  ·subst HE;rw[sB] at h4;refine ca (cR.refl _ _) t (λ_ _ _=>rfl) (λg' dU _=>⟨⟨dU.1.1,dU.2⟩,dU.1.2⟩) (λq hq=>?_) h4;rcases bd.1 hq with hq |hq
   ·exact n9.2 (eQ _ (n9.1 hq))
   rw[bu.1 hq];exact n9.2 (mX _ (by simp))
  exact ca (cR.refl _ _) t (λ_ _ _=>rfl) (λg' dU _=>⟨⟨dU.1,λhx=>HE (by rw[←dU.2.2];exact(h2 g' hx).2.2)⟩,dU.2⟩) (Ip (λq hq=>eQ _ hq)) (h j hj)
theorem Iy (a:Act) (i:Nat):a.put (some i) (gV a i)=a:=by
 unfold Act.put gV;simp only;have:a.tmps.setIfInBounds i (a.tmps.getD i undef)=a.tmps:=by
  apply Array.ext_getElem?;intro j;rw[mT,fp];by_cases h:i=j
  ·subst h;by_cases hl:i<a.tmps.size
   ·simp[hl]
   simp[hl]
  simp[h]
 rw[this]
def C2 (σ:Nat->Option Nat) (q s:Nat) (g:Nat):Option Nat:=if σ g=some s then some q else σ g
theorem anl {Z:Nat->Prop}:Av (C2 σ q s) Z g↔Av σ Z g:=by
 unfold Av C2;by_cases h:σ g=some s
 ·rw[aA h,h];exact⟨λ_=>.inl ⟨s,rfl⟩,λ_=>.inl ⟨q,rfl⟩⟩
 rw[aq h]
structure vY (σ eK:Nat->Option Nat) (n:Nat) (ow:Nat->Prop):Prop where
 was:∀ g,ow g->∃ i,i<n/\σ g=some i
 now:∀ g,ow g->∃ i,n<=i/\eK g=some i
 sub:∀ g i,eK g=some i->i<n->σ g=some i
 dom:∀ g,(∃ i,eK g=some i)↔∃ i,σ g=some i
 par:∀ g i,σ g=some i->n<=i->eK g=some i
theorem vY.none (σ:Nat->Option Nat) (n:Nat):vY σ σ n λ_=>False:=⟨λ_ h=>h.elim,λ_ h=>h.elim,λ_ _ h _=>h,λ_=>Iff.rfl,λ_ _ h _=>h⟩
theorem vY.C2 (σ:Nat->Option Nat) (hs:s<n) {ow:Nat->Prop} (h:∀ g,ow g->σ g=some s):vY σ (C2 σ n s) n ow:=by
 refine⟨λg hg=>⟨s,hs,h g hg⟩,λg hg=>⟨n,aR _,by unfold Go.Pv.C2;rw[aA (h g hg)]⟩,λg i hg hi=>?_,λg=>?_,λg i hg hi=>?_⟩
 ·unfold Go.Pv.C2 at hg;split at hg
  ·injection hg with hg;omega
  exact hg
 ·unfold Go.Pv.C2;split
  ·rename_i h;rw[h];exact⟨λ_=>⟨s,rfl⟩,λ_=>⟨n,rfl⟩⟩
  exact Iff.rfl
 unfold Go.Pv.C2;rw[aq (by rw[hg];intro e;injection e with e;omega)];exact hg
theorem vY.Av {ow:Nat->Prop} (h:vY σ eK n ow) {Z:Nat->Prop}:Av eK Z g↔Av σ Z g:=by unfold Go.Pv.Av;rw[h.dom g]
theorem qF (h:S.at i≠ .dead):i<S.length:=by
 rcases gP i S.length with hl |hl
 ·exact hl
 refine absurd ?_ h;unfold St.at;rw[aF,cA hl];rfl
theorem dp.C2 (h:dp σ w0 W0 Z H S a w) (i:Nat):dp (C2 σ S.length i) w0 W0 Z H (S.put (some i) .dead) a w:=by
 have gy:cR w w (Av σ Z) (Av (Go.Pv.C2 σ S.length i) Z):=⟨λ_ _ _=>rfl,λg _ hg=>anl.1 hg⟩;have hs:∀ g j,Go.Pv.C2 σ S.length i g=some j->∃ k,σ g=some k:=λg j hg=>by
  unfold Go.Pv.C2 at hg;split at hg
  ·exact⟨_,by assumption⟩
  exact⟨_,hg⟩
 have:=h.put (dst:=some i) (av:=.dead) (v:=gV a i) gy h.fr (λg j hg=>by
  obtain⟨k,hk⟩:=hs g j hg
  exact⟨h.new g k hk,h.lt g k hk⟩) (λg hg=>by unfold Go.Pv.C2;rw[(h.old g hg).1];simp) (λj g _ hd hg=>⟨rfl,by unfold Go.Pv.C2;rw[aq (by rw[hg];intro e;exact hd e.symm)];exact hg⟩) (λ_ _ _ _=>trivial)
 rw[Iy] at this;exact this
theorem abn (S:St) (d:Nat) (p:Path) (i:Nat):(S.cover d p).at i=match S.at i with
 | .ad t s q=>bif Nat.beq s d&&under p q then .dead else .ad t s q
 |a=>a:=aa5 S _ rfl i
theorem Ref.re (h:Ref tm S t s p r lB) (hk:∀ ex,S.at s=.v r ex->open_ p ex->∃ ex',S'.at s=.v r ex'/\open_ p ex'):Ref tm S' t s p r lB:=by obtain⟨⟨ex,h1,h2⟩,h3,h4,h5⟩:=h;exact⟨hk ex h1 h2,h3,h4,h5⟩
theorem wi (hd:S.at d=.v r ex) (hS:∀ i r' ex',i≠d->S.at i=.v r' ex'->S'.at i=.v r' ex') (hS':S'.at d=.v r (ex++[p])) {own:Nat->Prop} (hf:av.qE d=false) (hc:∀ t q,av=.ad t d q->under p q=false) (h:Holds w A H tm S own av v) (hnv:∀ b ex,av≠ .v b ex) (hnt:∀ l,av≠ .PJ l):Holds w A H tm S' own av v:=by
 have hre:∀ {t:Ty} {s:Nat} {q:Path} {r':TV} {lB:List Value},Ref tm S t s q r' lB->(s=d->under p q=false)->Ref tm S' t s q r' lB:=by
  intro t s q r' lB hr hu;refine hr.re (λex1 h1 h2=>?_);by_cases Xk:s=d
  ·subst Xk;rw[hd] at h1;injection h1 with h1 h1';subst h1 h1';refine⟨ex++[p],hS',λq' NQ s' r' e=>?_⟩;rcases bd.1 NQ with NQ |NQ
   ·exact h2 q' NQ s' r' e
   rw[bu.1 NQ] at e;have:=hu rfl;rw[e,Im] at this;cases this
  exact⟨ex1,hS s r' ex1 Xk h1,h2⟩
 have ak4:under p []=false:=by cases p<;>rfl
 cases av with
 |dead=>trivial
 |undef=>exact h
 |v b ex=>exact absurd rfl (hnv _ _)
 |PJ l=>exact absurd rfl (hnt _)
 |al t s q=>
  obtain⟨r',lB,cs,h1,h2,h3⟩:=h;refine⟨r',lB,cs,hre h1 (λe=>?_),h2,h3⟩;subst e;cases q with
  |nil=>exact ak4
  |cons _ _=>simp[AV.qE] at hf
 |ad t s q=>obtain⟨r',lB,g,off,h1,h2,h3⟩:=h;exact⟨r',lB,g,off,hre h1 (λe=>by subst e;exact hc _ _ rfl),h2,h3⟩
 |cut t s q lo hi=>obtain⟨r',lB,t',X,n,c,h1,h2⟩:=h;refine⟨r',lB,t',X,n,c,hre h1 (λe=>?_),h2⟩;subst e;simp[AV.qE] at hf
 |EY f kE=>
 obtain⟨vs,h1,h2,h3⟩:=h;refine⟨vs,h1,h2,λj c hj=>?_⟩;obtain⟨u,k1,k2⟩:=h3 j c hj;refine⟨u,k1,?_⟩;cases c with
 |kv b=>exact k2
 |pl t s q=>
 obtain⟨r',lB,cs,l1,l2,l3⟩:=k2;refine⟨r',lB,cs,hre l1 (λe=>?_),l2,l3⟩;subst e;cases q with
 |nil=>exact ak4
 |cons a' q'=>simp only[AV.qE] at hf;have xB:=dh.1 hf _ (dv hj);simp at xB
theorem rX (h:dp σ w0 W0 Z H S a w) (ho:S.pT Θ T x=some av) (e:S.pL x av=some (b,S1)): ∃ eK cs ow,dp eK w0 W0 Z H S1 a w/\a7 b.t (a.eval x) cs/\M w (Av σ Z) H b.t b.m b.x cs ow []/\vY σ eK S.length ow/\S1.length=S.length:=by
 have hh:=eU h ho;cases av with
 |v b0 ex=>
  simp only[St.pL] at e;cases hk:b0.m.fu with
  |true=>rw[hk] at e;simp only[ab,ah,aG] at e;obtain⟨rfl,rfl⟩:=e;obtain⟨cs,h1,h2⟩:=hh;exact⟨σ,cs,λ_=>False,h,h1,KO hk (tJ _ hk h2),vY.none _ _,rfl⟩
  |false=>
  rw[hk] at e;simp only[ae] at e;split at e
  ·rename_i i;simp only[ah,aG] at e;obtain⟨rfl,rfl⟩:=e;obtain⟨cs,h1,h2⟩:=hh;refine⟨_,cs,_,h.C2 i,h1,h2,vY.C2 σ (qF ?_) (λg hg=>?_),eO _ _ _⟩
   ·simp only[St.pT,ah] at ho;rw[ho];exact λe=>by cases e
   obtain⟨j,hj,hg⟩:=hg;injection hj with hj;subst hj;exact hg
  ·rename_i hx;simp only[ah,aG] at e;obtain⟨rfl,rfl⟩:=e;obtain⟨cs,h1,h2⟩:=hh;refine⟨σ,cs,λ_=>False,h,h1,ca (cR.refl _ _) _ (λ_ _ _=>rfl) (λg hg _=>?_) (λ_ h=>h) h2,vY.none _ _,rfl⟩;obtain⟨j,hj,_⟩:=hg;exact hx j hj
  cases e
 |al t s p=>
  simp only[St.pL] at e;obtain⟨r,lB,cs,hr,hc,hm⟩:=hh;split at e
  ·rename_i b' hb;cases hk:b'.m.fu with
   |true=>rw[hk] at e;simp only[ab,ah,aG] at e;obtain⟨rfl,rfl⟩:=e;obtain⟨Qg,kF,_,hM⟩:=nk h hr hc hb;exact⟨σ,cs,λ_=>False,h,by rw[Qg];exact hm,KO hk (tJ _ hk hM),vY.none _ _,rfl⟩
   |false=>
   rw[hk] at e;simp only[ae] at e;cases hp:p with
   |nil=>subst hp;simp only[ah,aG] at e;obtain⟨rfl,rfl⟩:=e;obtain⟨Qg,kF,N8,hM⟩:=nk h hr hc hb;obtain⟨ex0,hs0,_⟩:=hr.at_;exact⟨_,cs,kF,h.C2 s,by rw[Qg];exact hm,hM,vY.C2 σ (qF (by rw[hs0];exact λe=>by cases e)) N8,eO _ _ _⟩
   |cons stp pp=>
    rw[hp] at e
    obtain⟨ex,b2,kY,ow0,j1,j2,j3,j4,hM,j5,j6,j7⟩:=u6 h hr
    rw[j1] at e
    simp only[ah,aG] at e
    rw[←hp] at e
    obtain⟨rfl,rfl⟩:=e
    obtain⟨r3,ex3,q1,q2,q3⟩:=MN hb
    rw[j1] at q1
    injection q1 with q1 q1'
    subst q1 q1'
    rw[j3] at q3
    injection q3 with q3
    subst q3
    obtain⟨cs2,kF,k1,k2,k3,k4⟩:=aeJ p hM j2 hr.val j3 hk
    rw[hc] at k1
    injection k1 with k1
    subst k1
    rw[Rr q2] at k3
    -- the ownership without what is taken
    have aqC:s<S.length:=qF (by rw[j1];exact λe=>by cases e)
    let eK:Nat->Option Nat:=λg=>open Classical in if kF g then some S.length else σ g
    have abo:∀ g i,eK g=some i->∃ k,σ g=some k:=by
     intro g i hg
     simp only[eK] at hg
     split at hg
     ·exact⟨s,k2 g (by assumption)⟩
     ·exact⟨i,hg⟩
    have abp:∀ g i,σ g=some i->¬kF g->eK g=some i:=by
     intro g i hg hn
     simp only[eK,aq hn,hg]
    have gy:cR w w (Av σ Z) (Av eK Z):=⟨λ_ _ _=>rfl,λg _ hg=>by
     rcases hg with⟨i,hg⟩ |hg
     ·exact .inl (abo g i hg)
     ·exact .inr hg⟩
    have aqD:vY σ eK S.length kF:=by
     refine⟨λg hg=>⟨s,aqC,k2 g hg⟩,λg hg=>⟨_,aR _,by simp only[eK,aA hg]⟩,λg i hg hi=>?_,λg=>⟨λ⟨i,hg⟩=>abo g i hg,λ⟨i,hg⟩=>?_⟩,λg i hg hi=>abp g i hg (λhx=>?_)⟩
     ·simp only[eK] at hg
      split at hg
      ·injection hg with hg;omega
      ·exact hg
     ·simp only[eK]
      split
      ·exact⟨_,rfl⟩
      ·exact⟨i,hg⟩
     ·have:=k2 g hx
      rw[hg] at this
      injection this with this
      omega
    refine⟨eK,cs,kF,?_,by rw[j4];exact hm,k3,aqD,by simp[St.weaken,St.cover]⟩
    have hlen:((S.weaken s).cover s p).length=S.length:=by simp[St.weaken,St.cover]
    have ZG:s<S.length:=by
     rcases gP s S.length with hl |hl
     ·exact hl
     ·unfold St.at at j1
      rw[aF,cA hl] at j1
      cases j1
    have Xz:St.at (((S.weaken s).cover s p).set s (.v r (ex++[p]))) s=.v r (ex++[p]):=by rw[kN,aA ⟨rfl,by rw[hlen];exact ZG⟩]
    have Gp:∀ i,i≠s->St.at (((S.weaken s).cover s p).set s (.v r (ex++[p]))) i=(match (bif (S.at i).qE s then AV.dead else S.at i) with
      | .ad t s' q=>bif Nat.beq s' s&&under p q then .dead else .ad t s' q
      |a=>a):=by
     intro i hi
     rw[kN,aq (λe=>hi e.1),abn,zO]
    refine⟨by simp only[br,hlen];exact h.len,h.defers,h.fr,λg i hg=>(abo g i hg).elim λk hk=>h.new g k hk,λg i hg=>(abo g i hg).elim λk hk=>h.lt g k hk,λg hg=>⟨?_,(h.old g hg).2⟩,λi=>?_⟩
    ·simp only[eK]
     split
     ·rename_i hx
      have:=k2 g hx
      rw[(h.old g hg).1] at this
      cases this
     ·exact(h.old g hg).1
    ·by_cases his:i=s
     ·subst his
      rw[Xz]
      exact⟨lB,hr.mat,ca gy _ (λ_ _ _=>rfl) (λg hg _=>abp g _ hg.1 hg.2) (λ_ h=>h) k4⟩
     ·rw[Gp i his]
      cases Ms:(S.at i).qE s with
      |true=>trivial
      |false=>
       simp only[ae]
       have hi:=h.holds i
       have base:Holds w (Av eK Z) H (gV a) S (λg=>eK g=some i) (S.at i) (gV a i):=
        hi.kept gy (λg hg _=>⟨rfl,abp g i hg (λhx=>his (by have:=k2 g hx;rw[hg] at this;injection this))⟩) (λs' _=>⟨λ_ _ h=>h,rfl,_,h.holds s',λ_ _ _=>rfl⟩)
       have hSv:∀ j r' ex',j≠s->S.at j=.v r' ex'->St.at (((S.weaken s).cover s p).set s (.v r (ex++[p]))) j=.v r' ex':=by
        intro j r' ex' hj hv
        rw[Gp j hj,hv]
        simp[AV.qE]
       cases tL:S.at i with
       |v b3 ex3=>
        rw[tL] at base
        obtain⟨c3,l1,l2⟩:=base
        exact⟨c3,l1,l2⟩
       |PJ l=>
        rw[tL] at base
        exact base
       |ad t' s' q=>
        rw[tL] at base Ms
        simp only
        cases ayx:(Nat.beq s' s&&under p q) with
        |true=>trivial
        |false=>
         simp only[ae]
         refine wi j1 hSv Xz Ms (λt2 q2 e2=>?_) base (λ_ _ e=>by cases e) (λ_ e=>by cases e)
         injection e2 with _ e3 e4
         subst e3 e4
         simpa using ayx
       |dead=>trivial
       |undef=>rw[tL] at base;exact base
       |al t' s' q=>
        rw[tL] at base Ms
        exact wi j1 hSv Xz Ms (λt2 q2 e2=>by cases e2) base (λ_ _ e=>by cases e) (λ_ e=>by cases e)
       |cut t' s' q lo hi'=>
        rw[tL] at base Ms
        exact wi j1 hSv Xz Ms (λt2 q2 e2=>by cases e2) base (λ_ _ e=>by cases e) (λ_ e=>by cases e)
       |EY f kE=>
        rw[tL] at base Ms
        exact wi j1 hSv Xz Ms (λt2 q2 e2=>by cases e2) base (λ_ _ e=>by cases e) (λ_ e=>by cases e)
  cases e
 |cut t s p lo hi=>
  cases p with
  |cons _ _=>simp[St.pL] at e
  |nil=>
  simp only[St.pL] at e;obtain⟨r,lB,t',X,n,c,hr,rfl,hc,hlo,hhi,hv⟩:=hh;split at e
  ·rename_i t2 T2 tag me xs hb;cases ayy:Nat.beq lo 0 with
   |false=>rw[ayy] at e;cases e
   |true=>
   rw[ayy] at e;have hl0:=aw ayy;subst hl0;simp only[ab,ah,aG] at e;obtain⟨rfl,rfl⟩:=e;obtain⟨Qg,kF,N8,hM⟩:=nk h hr hc hb;injection Qg with Qg;subst Qg;simp only[M] at hM;rcases hM with⟨hn,_⟩ |⟨hk,_⟩ |⟨T3,aEK,me3,X3,c3,e3,e4,hcc,ao2,hM⟩
   ·simp at hn
   ·simp[Md.fu] at hk
   injection e3 with e3 e3' aDF;subst e3 e3' aDF;simp only[eB,fx,iO] at e4;obtain⟨rfl,hn,rfl⟩:=e4;have hv':a.eval x=.slice X hi c:=by
    rw[hv];have:(if c=0 then X else X.map λx=>x.add (0*Ty.size t2))=X:=by
     split
     ·rfl
     cases X with
     |none=>rfl
     |some ad=>simp[Addr.add]
    rw[this];simp
   have hlen:(List.take hi xs).length=hi:=(by rw[aH];omega);obtain⟨ex0,hs0,_⟩:=hr.at_;refine⟨_,[.slice X hi c],kF,h.C2 s,by simp[a7,isAgg,hv'],?_,vY.C2 σ (qF (by rw[hs0];exact λe=>by cases e)) N8,eO _ _ _⟩;simp only[M];refine .inr (.inr ⟨T2,none,me,X,c,rfl,by rw[hlen],by rw[hlen];omega,λh hh=>(by cases hh),?_⟩);rcases hM with⟨rfl,rfl⟩ |⟨g,cur,τ,rfl,hg,hw,sW,hm,hj⟩
   ·left;simp
   right;refine⟨g,cur,τ,rfl,hg,hw,sW,hm,λj hj1=>?_⟩;rw[hlen] at hj1;have:=hj j (by omega);rw[gJ];exact this
  cases e
 |_=>simp[St.pL] at e
def uL (σ:Nat->Option Nat) (dst:Option Nat) (ow:Nat->Prop) (g:Nat):Option Nat:=open Classical in if ow g then dst else release σ dst g
theorem dp.anm (h:dp σ w0 W0 Z H S a w) {ow:Nat->Prop} (sW:w.heap.size<=w'.heap.size) (xm:∀ g,g<w.heap.size->(∀ i,S.length<=i->σ g≠some i)->w'.heap[g]?=w.heap[g]?) (Ms:Fr w0 W0 w') (N8:∀ g,ow g->g<w'.heap.size/\((∃ i,S.length<=i/\σ g=some i)∨w.heap.size<=g)) (hH:∀ d,dst=some d->(∀ g,ow g->uL σ dst ow g=some d)->(∀ g,Av (uL σ dst ow) Z g->Av σ Z g∨ow g)->Holds w' (Av (uL σ dst ow) Z) H (gV (a.put dst v)) (S.put dst av) (λg=>uL σ dst ow g=some d) av v): dp (uL σ dst ow) w0 W0 Z H (S.put dst av) (a.put dst v) w':=by
 have hw0:w0.heap.size<=w.heap.size:=h.fr.size;have tL:∀ g i,uL σ dst ow g=some i->(ow g/\dst=some i)∨(¬ow g/\σ g=some i/\dst≠some i):=λg i hg=>by
  unfold uL at hg;split at hg
  ·exact .inl ⟨by assumption,hg⟩
  exact .inr ⟨by assumption,q9 hg⟩
 have hAv:∀ g,Av (uL σ dst ow) Z g->Av σ Z g∨ow g:=λg hg=>by
  rcases hg with⟨i,hg⟩ |hg
  ·rcases tL g i hg with⟨h1,_⟩ |⟨_,h1,_⟩
   ·exact .inr h1
   exact .inl (.inl ⟨i,h1⟩)
  exact .inl (.inr hg)
 have gy:cR w w' (Av σ Z) (Av (uL σ dst ow) Z):=⟨λg hn hg=>xm g hg (λi _ hi=>hn (.inl ⟨i,hi⟩)),λg hg hx=>by
  rcases hAv g hx with h1 |h1
  ·exact h1
  ·rcases(N8 g h1).2 with⟨i,_,hi⟩ |h2
   ·exact .inl ⟨i,hi⟩
   ·omega⟩
 refine h.put gy Ms (λg i hg=>?_) (λg hg=>?_) (λi g hi hd hg=>⟨xm g (h.lt g i hg) (λj hj Mt=>by rw[hg] at Mt;injection Mt with Mt;omega),?_⟩) (λd hd hl _=>hH d hd (λg hg=>by unfold uL;rw[aA hg];exact hd) hAv)
 ·rcases tL g i hg with⟨h1,_⟩ |⟨_,h1,_⟩
  ·rcases N8 g h1 with⟨h2,⟨j,_,hj⟩ |h3⟩
   ·exact⟨h.new g j hj,h2⟩
   exact⟨.inl (by omega),h2⟩
  exact⟨h.new g i h1,by have:=h.lt g i h1;omega⟩
 ·obtain⟨h1,h2⟩:=h.old g hg;unfold uL;split
  ·rename_i hx;rcases(N8 g hx).2 with⟨i,_,hi⟩ |h3
   ·rw[h1] at hi;cases hi
   omega
  unfold release;split
  ·rfl
  exact h1
 have hn: ¬ow g:=λhx=>by
  rcases(N8 g hx).2 with⟨j,hj,Mt⟩ |h3
  ·rw[hg] at Mt;injection Mt with Mt;omega
  have:=h.lt g i hg;omega
 unfold uL;rw[aq hn];exact HF hd hg
theorem dp.axw (h:dp σ w0 W0 Z H S a w) {ow:Nat->Prop} {A':Nat->Prop} (sW:w.heap.size<=w'.heap.size) (xm:∀ g,g<w.heap.size->(∀ i,S.length<=i->σ g≠some i)->w'.heap[g]?=w.heap[g]?) (Ms:Fr w0 W0 w') (N8:∀ g,ow g->g<w'.heap.size/\((∃ i,S.length<=i/\σ g=some i)∨w.heap.size<=g)) (hA:∀ g,g<w'.heap.size->Av σ Z g∨ow g->A' g) (hm:a7 b.t v cs) (hM:M w' A' H b.t b.m b.x cs ow []): dp (uL σ dst ow) w0 W0 Z H (S.put dst (.v b [])) (a.put dst v) w':=h.anm sW xm Ms N8 λd _ h1 h2=>⟨cs,hm,ca ⟨λ_ _ _=>rfl,λg hg hx=>hA g hg (h2 g hx)⟩ _ (λ_ _ _=>rfl) (λg hg _=>h1 g hg) (λ_ h=>h) hM⟩
theorem dp.af6 (h:dp σ w0 W0 Z H S a w) {ow:Nat->Prop} {A':Nat->Prop} (xm:∀ g,g<w.heap.size->w'.heap[g]?=w.heap[g]?) (Ms:Fr w0 W0 w') (N8:∀ g,ow g->g<w'.heap.size/\((∃ i,S.length<=i/\σ g=some i)∨w.heap.size<=g)) (hA:∀ g,g<w'.heap.size->Av σ Z g∨ow g->A' g) (hm:a7 b.t v cs) (hM:M w' A' H b.t b.m b.x cs ow []): dp (uL σ dst ow) w0 W0 Z H (S.put dst (.v b [])) (a.put dst v) w':=by
 refine h.axw ?_ (λg hg _=>xm g hg) Ms N8 hA hm hM;rcases vj w.heap.size with h0 |h0
 ·omega
 have:=xm (w.heap.size - 1) (by omega);rw[dw (show w.heap.size - 1<w.heap.size by omega)] at this;have:=dz this;omega
end Go.Pv
namespace Go.Pv
open List Int IntKind
variable {P:Program} {w w':World} {A A' Wr:Nat->Prop} {H:Nat->Value} {tm Nj:Nat->Value} {S S' S1:St} {σ eK:Nat->Option Nat} {w0:World} {W0 Z:Nat->Prop} {a:Act} {own:Nat->Prop} {v:Value} {Θ:nh} {dst:Option Nat}
theorem wY:∀ (t:Ty),zN t=true->K w A t t.z (zc t)
 | .int k,_=>by simp[K,zc,Ty.z]
 | .bool,_=>by simp[K,zc,Ty.z]
 | .str,_=>by simp[K,zc,Ty.z]
 | .unit,_=>by simp[K,zc]
 | .sl t,_=>by simp only[K,zc,Ty.z];exact⟨none,0,rfl,aR _,λh=>absurd h (zb _)⟩
 | .pair a b,h=>by simp only[zN,ai] at h;simp only[K,zc,Ty.z];exact⟨_,_,rfl,wY a h.1,wY b h.2⟩
 | .ptr t,h=>by simp[zN] at h
 | .arr n t,h=>by simp only[zN] at h;simp only[K,zc,Ty.z];refine⟨List.replicate n (zc t),rfl,by simp,by simp,λj h1 h2=>?_⟩;simp only[List.getElem_replicate];exact wY t h
 | .mp,h=>by simp[zN] at h
theorem af7 {ow:Nat->Prop} (h:M w A H t m x cs (λ_=>False) []):M w A H t m x cs ow []:=ca (cR.refl _ _) t (λ_ _ _=>rfl) (λ_ h _=>h.elim) (λ_ h=>h) h
theorem abq:∀ (t:Ty) {m:Md},RY t m=true->M w A H t m t.z (zc t) (λ_=>False) []
 | .pair a b,.p ma mb,h=>by
  simp only[RY,bo,ai] at h;rcases h with h |h
  ·simp only[M];exact .inr (.inr ⟨ma,mb,zc a,zc b,λ_=>True,rfl,rfl,af7 (abq a h.1),af7 (abq b h.2)⟩)
  exact KO (by simp[Md.fu,h.1.1.1,h.1.1.2]) (by simp only[K,zc,Ty.z];exact⟨_,_,rfl,wY a h.1.2,wY b h.2⟩)
 | .sl t,.o T none me,_=>by simp only[M];exact .inr (.inr ⟨T,none,me,none,0,rfl,rfl,aR _,λh hh=>(by cases hh),.inl ⟨rfl,rfl⟩⟩)
 | .pair a b,.k,h=>by simp only[RY,ai] at h;exact KO h.1 (wY _ h.2)
 | .pair a b,.o ..,h=>by simp[RY,Md.fu] at h
 | .sl t,.k,h=>by simp only[RY,ai] at h;exact KO h.1 (wY _ h.2)
 | .sl t,.o _ (some _) _,h=>by simp[RY,Md.fu] at h
 | .sl t,.p a b,h=>by simp only[RY,ai] at h;exact KO h.1 (wY _ h.2)
 | .int k,m,h=>by have h:(m.fu&&zN (.int k))=true:=(by cases m<;>exact h);simp only[ai] at h;exact KO h.1 (wY _ h.2)
 | .bool,m,h=>by have h:(m.fu&&zN .bool)=true:=(by cases m<;>exact h);simp only[ai] at h;exact KO h.1 (wY _ h.2)
 | .str,m,h=>by have h:(m.fu&&zN .str)=true:=(by cases m<;>exact h);simp only[ai] at h;exact KO h.1 (wY _ h.2)
 | .unit,m,h=>by have h:(m.fu&&zN .unit)=true:=(by cases m<;>exact h);simp only[ai] at h;exact KO h.1 (wY _ h.2)
 | .ptr t,m,h=>by have h:(m.fu&&zN (.ptr t))=true:=(by cases m<;>exact h);simp[zN] at h
 | .arr n t,m,h=>by have h:(m.fu&&zN (.arr n t))=true:=(by cases m<;>exact h);simp only[ai] at h;exact KO h.1 (wY _ h.2)
 | .mp,m,h=>by have h:(m.fu&&zN .mp)=true:=(by cases m<;>exact h);simp[zN] at h
theorem XA (hT:ke P Θ=true) (h:Ob Θ T=some z): ∃ i inf zv,Θ.find T=some i/\i.ty=z.t/\z.x=z.t.z/\RY z.t z.m=true/\P.info? T=some inf/\inf.size=z.t.size/\inf.zero=some zv/\a7 z.t zv (zc z.t)/\inf.bytes<=32*z.t.size/\inf.bytes<=256:=by
 unfold Ob at h;split at h
 ·rename_i i hi;cases hz:RY i.ty (ahM Θ 9 T) with
  |false=>rw[hz] at h;cases h
  |true=>rw[hz] at h;simp only[ab,ah] at h;subst h;obtain⟨⟨_,inf,zv,h1,h2,h3,h4,h5,h6,h7⟩,_,rfl⟩:=kP hT hi;exact⟨i,inf,zv,hi,rfl,rfl,hz,h1,h2,h6,h7,h3,h4⟩
 cases h
theorem Fr.alloc (h:Fr w0 W0 w) (o:Obj):Fr w0 W0 (w.alloc o):=by
 refine⟨h.os,h.tape,h.output,?_,λg hg hn=>?_⟩
 ·have:=h.size;simp only[World.alloc,gA];omega
 rw[heap_alloc_old w o g (by have:=h.size;omega)];exact h.block g hg hn
theorem zd (h:a7 t v cs) (h1:∀ u∈cs,u.oneCell'=true):v.cells=cs.toArray:=by have:=afV h h1;rw[←this]
theorem aic {ow:Nat->Prop} (T:TypeId) (hM:M w A H t m x cs ow []) (gU:∀ g,ow g->g<w.heap.size): M (w.alloc (.cells cs.toArray T)) (λg=>A g∨w.heap.size<=g) H (.ptr t) (.o T none m) x [.pointer (some ⟨w.heap.size,0,none⟩)] (λg=>ow g∨g=w.heap.size) []:=by
 simp only[M];refine .inr (.inr ⟨T,none,m,w.heap.size,cs.toArray,rfl,rfl,λh hh=>(by cases hh),.inr rfl,ia w _,?_⟩);refine ca (w:=w) ⟨λg _ hg=>heap_alloc_old w _ g hg,λg hg hx=>?_⟩ t (λg hg hl=>heap_alloc_old w _ g hl) (λg hg hl=>⟨.inl hg,by omega⟩) (λ_ h=>(by simp at h)) hM;rcases hx with hx |hx
 ·exact hx
 omega
def Ug (P:Program) (w0:World) (W0 Z:Nat->Prop) (H:Nat->Value) (S':St) (a:Act) (dst:Option Nat) (w:World) (s:Sem Next):Prop:=∃ w' v,s.run P w=.ok (.value v) w'/\Ext w w'/\Rel w0 W0 Z H S' (a.put dst v) w'
theorem Ug.goes (h:Ug P w0 W0 Z H S' a dst w s):ad2 P w0 W0 Z H S' a dst w s:=by obtain⟨w',v,h1,_,h2⟩:=h;exact⟨w',v,.inl h1,h2⟩
theorem xU.ZF (h:xU P w0 W0 Z H S' a dst w s):Ug P w0 W0 Z H S' a dst w s:=by obtain⟨v,h1,h2⟩:=h;exact⟨w,v,h1 w (Ext.refl w),Ext.refl w,h2⟩
theorem aqE (hT:ke P Θ=true) (h:dp σ w0 W0 Z H S a w) (ho:o.op=.alloc T) (e:My Θ hn S o.dst T=some (true,S')):Ug P w0 W0 Z H S' a o.dst w (execOp a.eval o):=by
 unfold My at e;split at e
 ·rename_i z hz;cases hf:RY z.t (hn.find o.dst z.m) with
  |false=>rw[hf] at e;cases e
  |true=>
  rw[hf] at e;simp only[ab,ah,aG,cp] at e;subst e;obtain⟨i,inf,zv,_,_,_,_,h1,h2,h3,h4,_⟩:=XA hT hz;have hM:M w (Av σ Z) H z.t (hn.find o.dst z.m) z.t.z (zc z.t) (λ_=>False) []:=abq z.t hf;have ayz:=aic T hM (λ_ h=>h.elim);refine⟨w.alloc (.cells (zc z.t).toArray T),.pointer (some ⟨w.heap.size,0,none⟩),?_,λg hg=>heap_alloc_old w _ g hg,_,h.af6 (b:=⟨.ptr z.t,.o T none (hn.find o.dst z.m),z.t.z⟩) (cs:=[.pointer (some ⟨w.heap.size,0,none⟩)]) (λg hg=>heap_alloc_old w _ g hg) (h.fr.alloc _) (λg hg=>?_) (λg hg hx=>?_) (by simp[a7,isAgg]) ayz⟩
  ·simp[execOp,ho,Instr.alloc,zeroValue,typeInfo,h1,h3,newVar,newRow,zd h4 (rK _ hM).2]
  ·rcases hg with hg |rfl
   ·exact hg.elim
   exact⟨by simp only[World.alloc,gA];omega,.inr (aR _)⟩
  rcases hx with hx |hx |rfl
  ·exact .inl hx
  ·exact hx.elim
  exact .inr (aR _)
 cases e
theorem Lw {ow:Nat->Prop} (h:dp eK w0 W0 Z H S1 a w) (hk:vY σ eK n ow) (hn:S1.length=n) (hr:∀ w2,Ext w w2->s.run P w2=.ok (.value v) w2) (hm:a7 b.t v cs) (hM:M w (Av σ Z) H b.t b.m b.x cs ow []): xU P w0 W0 Z H (S1.put dst (.v b [])) a dst w s:=by
 refine⟨v,hr,_,h.af6 (b:=b) (cs:=cs) (λ_ _=>rfl) h.fr (λg hg=>?_) (λg hg hx=>?_) hm hM⟩
 ·obtain⟨i,hi,dU⟩:=hk.now g hg;exact⟨h.lt g i dU,.inl ⟨i,by omega,dU⟩⟩
 rcases hx with hx |hx
 ·exact hk.Av.1 hx
 obtain⟨i,hi,dU⟩:=hk.was g hx;exact .inl ⟨i,dU⟩
theorem ayA (hT:ke P Θ=true) (h:dp σ w0 W0 Z H S a w) (ho:o.op=.box T x) (e:ap1 Θ S o.dst T x=some (true,S')):Ug P w0 W0 Z H S' a o.dst w (execOp a.eval o):=by
 unfold ap1 St.take at e;split at e
 ·rename_i b S1 hb;split at hb
  ·rename_i av pU;obtain⟨eK,cs,ow,h1,hm,hM,hk,hn⟩:=rX h pU hb;cases hc:Θ.is T b.t with
   |false=>rw[hc] at e;cases e
   |true=>
   rw[hc] at e;simp only[ab,ah,aG,cp] at e;subst e;have gU:∀ g,ow g->g<w.heap.size:=λg hg=>(by obtain⟨i,_,hi⟩:=hk.was g hg;exact h.lt g i hi);have ayz:=aic T hM gU;refine⟨w.alloc (.cells cs.toArray T),.pointer (some ⟨w.heap.size,0,none⟩),?_,λg hg=>heap_alloc_old w _ g hg,_,h1.af6 (b:=⟨.ptr b.t,.o T none b.m,b.x⟩) (cs:=[.pointer (some ⟨w.heap.size,0,none⟩)]) (λg hg=>heap_alloc_old w _ g hg) (h1.fr.alloc _) (λg hg=>?_) (λg hg hx=>?_) (by simp[a7,isAgg]) ayz⟩
   ·simp[execOp,ho,Instr.box,newVar,newRow,zd hm (rK _ hM).2]
   ·rcases hg with hg |rfl
    ·obtain⟨i,hi,dU⟩:=hk.now g hg;have:=gU g hg;exact⟨by simp only[World.alloc,gA];omega,.inl ⟨i,by omega,dU⟩⟩
    exact⟨by simp only[World.alloc,gA];omega,.inr (aR _)⟩
   rcases hx with hx |hx |rfl
   ·exact .inl (hk.Av.1 hx)
   ·obtain⟨i,_,hi⟩:=hk.was g hx;exact .inl (.inl ⟨i,hi⟩)
   exact .inr (aR _)
  cases hb
 cases e
theorem xU.still (hr:∀ w2,s.run P w2=.ok (.value v) w2) (h:xU P w0 W0 Z H S' a dst w s):C8 P w0 W0 Z H S' a dst w s:=by obtain⟨v',h1,h2⟩:=h;have:=(h1 w (Ext.refl w)).symm.trans (hr w);injection this with this;injection this with this;subst this;exact⟨_,hr,h2⟩
end Go.Pv
namespace Go.Pv
open List Int IntKind
variable {P:Program} {w w':World} {A A' Wr:Nat->Prop} {H:Nat->Value} {tm Nj:Nat->Value} {S S' S1:St} {σ eK:Nat->Option Nat} {w0:World} {W0 Z:Nat->Prop} {a:Act} {own:Nat->Prop} {v:Value} {Θ:nh} {dst:Option Nat}
theorem PS:∀ (p:Path) {t:Ty} {m:Md} {x:t.I} {b b0:TV} {r:Md×t.I},v7 b p t m x=some r->dP p t m x=some b0->b.t=b0.t
 |[],t,m,x,b,b0,r,h,hg=>by
  simp only[dP,ah] at hg;subst hg;simp only[v7] at h;split at h
  ·assumption
  cases h
 | .deref::p,.ptr t,.o T tag me,x,b,b0,r,h,hg=>by
  simp only[v7] at h;simp only[dP] at hg;split at h
  ·rename_i r1 h1;exact PS p h1 hg
  cases h
 | .fst::p,.pair t u,m,x,b,b0,r,h,hg=>by
  simp only[v7] at h;simp only[dP] at hg;split at h
  ·rename_i r1 h1;exact PS p h1 hg
  cases h
 | .snd::p,.pair t u,m,x,b,b0,r,h,hg=>by
  simp only[v7] at h;simp only[dP] at hg;split at h
  ·rename_i r1 h1;exact PS p h1 hg
  cases h
 | .idx i::p,.sl t,.o T tag me,xs,b,b0,r,h,hg=>by obtain⟨r1,h1,_⟩:=aaW h;simp only[dP] at hg;exact PS p h1 hg
theorem AX:∀ (q:Path) {t:Ty} {x y:t.I},cu q=true->valid q t x->valid q t y
 |[],_,_,_,_,_=>trivial
 | .fst::q,.pair a b,x,y,h,hv=>by simp only[valid] at hv ⊢;exact AX q (by simpa[cu] using h) hv
 | .snd::q,.pair a b,x,y,h,hv=>by simp only[valid] at hv ⊢;exact AX q (by simpa[cu] using h) hv
theorem u7:∀ (q:Path),depth q=0->cu q=true
 |[],_=>rfl
 | .fst::q,h=>by simp only[cu];exact u7 q (by simpa[depth] using h)
 | .snd::q,h=>by simp only[cu];exact u7 q (by simpa[depth] using h)
 | .deref::q,h=>by simp[depth] at h
 | .idx i::q,h=>by simp[depth] at h
theorem qP:∀ (q:Path) {t:Ty} {cs kY:List Value} {l:Option (Nat×Nat)},cu q=true->addrAt w q t cs l=addrAt w' q t kY l
 |[],_,_,_,_,_=>rfl
 | .fst::q,.pair a b,cs,kY,l,h=>by simp only[addrAt];exact qP q (by simpa[cu] using h)
 | .snd::q,.pair a b,cs,kY,l,h=>by simp only[addrAt];exact qP q (by simpa[cu] using h)
 | .fst::q,.int _,_,_,_,_=>by simp[addrAt]
 | .fst::q,.bool,_,_,_,_=>by simp[addrAt]
 | .fst::q,.str,_,_,_,_=>by simp[addrAt]
 | .fst::q,.sl _,_,_,_,_=>by simp[addrAt]
 | .fst::q,.ptr _,_,_,_,_=>by simp[addrAt]
 | .fst::q,.unit,_,_,_,_=>by simp[addrAt]
 | .fst::q,.arr _ _,_,_,_,_=>by simp[addrAt]
 | .fst::q,.mp,_,_,_,_=>by simp[addrAt]
 | .snd::q,.int _,_,_,_,_=>by simp[addrAt]
 | .snd::q,.bool,_,_,_,_=>by simp[addrAt]
 | .snd::q,.str,_,_,_,_=>by simp[addrAt]
 | .snd::q,.sl _,_,_,_,_=>by simp[addrAt]
 | .snd::q,.ptr _,_,_,_,_=>by simp[addrAt]
 | .snd::q,.unit,_,_,_,_=>by simp[addrAt]
 | .snd::q,.arr _ _,_,_,_,_=>by simp[addrAt]
 | .snd::q,.mp,_,_,_,_=>by simp[addrAt]
theorem Sd:∀ (q p:Path) {t:Ty} {m:Md} {x:t.I} {b:TV} {r:Md×t.I},v7 b p t m x=some r->cu p=false->depth q<=1->valid q t x->valid q t r.2
 |[],_,_,_,_,_,_,_,_,_,_=>trivial
 | .deref::q,p,.ptr t,m,x,b,r,h,hp,hd,hv=>by simp only[valid] at hv ⊢;exact AX q (u7 q (by simp[depth] at hd;omega)) hv
 | .idx i::q,p,.sl t,m,xs,b,r,h,hp,hd,hv=>by
  simp only[valid] at hv ⊢;refine⟨?_,AX q (u7 q (by simp[depth] at hd;omega)) hv.2⟩;cases p with
  |nil=>simp[cu] at hp
  |cons s p=>
  cases s<;>cases m<;>simp[v7] at h;rename_i j T tag me;have h':v7 b (.idx j::p) (.sl t) (.o T tag me) xs=some r:=by simp only[v7];exact h
  obtain⟨r1,_,_,rfl⟩:=aaW h';simpa using hv.1
 | .fst::q,p,.pair t u,m,x,b,r,h,hp,hd,hv=>by
  simp only[valid] at hv ⊢;cases p with
  |nil=>simp[cu] at hp
  |cons s p=>
  cases s<;>simp only[v7,reduceCtorEq] at h
  ·split at h
   ·rename_i r1 h1;injection h with h;subst h;exact Sd q p h1 (by simpa[cu] using hp) (by simpa[depth] using hd) hv
   cases h
  split at h
  ·rename_i r1 h1;injection h with h;subst h;exact hv
  cases h
 | .snd::q,p,.pair t u,m,x,b,r,h,hp,hd,hv=>by
  simp only[valid] at hv ⊢;cases p with
  |nil=>simp[cu] at hp
  |cons s p=>
  cases s<;>simp only[v7,reduceCtorEq] at h
  ·split at h
   ·rename_i r1 h1;injection h with h;subst h;exact hv
   cases h
  split at h
  ·rename_i r1 h1;injection h with h;subst h;exact Sd q p h1 (by simpa[cu] using hp) (by simpa[depth] using hd) hv
  cases h
theorem Lx:∀ (q:Path) {t:Ty} {m:Md} {x:t.I} {cs:List Value} {ow:Nat->Prop} {hs:List Path} {l:Option (Nat×Nat)} {g:Nat×Nat},M w' A' H t m x cs ow hs->open_ q hs->valid q t x->depth q<=1->addrAt w q t cs l=some g->addrAt w' q t cs l=some g
 |[],_,_,_,_,_,_,_,_,_,_,_,_,e=>e
 | .deref::q,.ptr t,m,x,cs,ow,hs,l,g0,h,ho,hv,hd,e=>by
  have hq:cu q=true:=u7 q (by simp[depth] at hd;omega);simp only[M] at h;rcases h with⟨hn,_⟩ |⟨hk,h⟩ |⟨T,tag,me,g,cur,rfl,rfl,ht,Ni,hw,h⟩
  ·exact absurd hn ho.not_nil
  ·simp only[K] at h;obtain⟨g,off,cur,T,fr,rfl,hng,hw,hl,h⟩:=h;simp only[addrAt,eT hw hl,aL] at e ⊢;cases hr:rowAt w g off t.size with
   |none=>rw[hr] at e;cases e
   |some row=>rw[hr,aL] at e;rw[←e];exact qP q hq
  have sW:0+t.size<=cur.size:=(by rw[←(rK t h).1];simp);simp only[addrAt,eT hw sW,aL] at e ⊢;cases hr:rowAt w g 0 t.size with
  |none=>rw[hr] at e;cases e
  |some row=>rw[hr,aL] at e;rw[←e];exact qP q hq
 | .fst::q,.pair a b',m,x,cs,ow,hs,l,g0,h,ho,hv,hd,e=>by
  simp only[valid] at hv;simp only[M] at h;simp only[addrAt] at e ⊢;rcases h with⟨hn,_⟩ |⟨hk,h⟩ |⟨ma,mb,c0,c1,s,rfl,rfl,h0,h1⟩
  ·exact absurd hn ho.not_nil
  ·simp only[K] at h;obtain⟨c0,c1,rfl,h0,h1⟩:=h;rw[←(Fq a h0).1,eh] at e ⊢;exact Lx q (ua (H:=H) (ow:=λ_=>False) (hs:=sub .fst hs) a h0) ho.sub hv (by simpa[depth] using hd) e
  rw[←(rK a h0).1,eh] at e ⊢;exact Lx q h0 ho.sub hv (by simpa[depth] using hd) e
 | .snd::q,.pair a b',m,x,cs,ow,hs,l,g0,h,ho,hv,hd,e=>by
  simp only[valid] at hv;simp only[M] at h;simp only[addrAt] at e ⊢;rcases h with⟨hn,_⟩ |⟨hk,h⟩ |⟨ma,mb,c0,c1,s,rfl,rfl,h0,h1⟩
  ·exact absurd hn ho.not_nil
  ·simp only[K] at h;obtain⟨c0,c1,rfl,h0,h1⟩:=h;rw[←(Fq a h0).1,dy] at e ⊢;exact Lx q (ua (H:=H) (ow:=λ_=>False) (hs:=sub .snd hs) b' h1) ho.sub hv (by simpa[depth] using hd) e
  rw[←(rK a h0).1,dy] at e ⊢;exact Lx q h1 ho.sub hv (by simpa[depth] using hd) e
 | .idx i::q,.sl t,m,xs,cs,ow,hs,l,g0,h,ho,hv,hd,e=>by
  have hq:cu q=true:=u7 q (by simp[depth] at hd;omega);simp only[valid] at hv;obtain⟨hi,hv⟩:=hv;simp only[M] at h;rcases h with⟨hn,_⟩ |⟨hk,h⟩ |⟨T,tag,me,X,c,rfl,rfl,hc,ht,h⟩
  ·exact absurd hn ho.not_nil
  ·simp only[K] at h;obtain⟨X,c,rfl,hc,h⟩:=h;obtain⟨g,off,cur,T,fr,rfl,hng,hw,hl,h⟩:=h (by omega);have hbound:off+i*t.size+t.size<=cur.size:=by have:=aD t.size (show i+1<=xs.length from hi);rw[bg,cM] at this;omega
   simp only[addrAt,eT hw hbound,aL] at e ⊢;cases hr:rowAt w g (off+i*t.size) t.size with
   |none=>rw[hr] at e;cases e
   |some row=>rw[hr,aL] at e;rw[←e];exact qP q hq
  rcases h with⟨rfl,_⟩ |⟨g,cur,τ,rfl,Ni,hw,sW,hm,h⟩
  ·simp at hi
  have hbound:0+i*t.size+t.size<=cur.size:=(by have h1:=aD t.size (show i+1<=xs.length from hi);have h2:=aD t.size hc;rw[bg,cM] at h1;omega);simp only[addrAt,eT hw hbound,aL] at e ⊢;cases hr:rowAt w g (0+i*t.size) t.size with
  |none=>rw[hr] at e;cases e
  |some row=>rw[hr,aL] at e;rw[←e];exact qP q hq
theorem aqF:∀ (q p:Path) {t:Ty} {m:Md} {x:t.I} {b b1:TV} {r:Md×t.I},v7 b p t m x=some r->dP q t m x=some b1->∀ m',∃ b2,dP q t m' r.2=some b2/\b2.t=b1.t:=by
 have key:∀ (q:Path) {t:Ty} {m m':Md} {x y:t.I} {b1:TV},dP q t m x=some b1->∃ b2,dP q t m' y=some b2/\b2.t=b1.t:=by
  intro q;induction q with
  |nil=>intro t m m' x y b1 h;simp only[dP,ah] at h;subst h;exact⟨_,rfl,rfl⟩
  |cons s q ih=>intro t m m' x y b1 h;cases s<;>cases t<;>simp only[dP,reduceCtorEq] at h ⊢;all_goals exact ih h
 intro q p t m x b b1 r _ h m';exact key q h
theorem Rt (gy:cR w w' A A') (XB:r'.t=r.t) (hd:S.at d=.v r ex) (hd':S'.at d=.v r' ex') (hS:∀ i r1 ex1,i≠d->S.at i=.v r1 ex1->S'.at i=.v r1 ex1) (hM:∃ lB afU,a7 r.t (tm d) lB/\M w' A' H r'.t r'.m r'.x lB afU ex') (hex:∀ q∈ex',q∈ex) (AQ:∀ q,depth q<=1->valid q r.t r.x->valid q r'.t r'.x) (sB:∀ q b1,dP q r.t r.m r.x=some b1->∃ b2,dP q r'.t r'.m r'.x=some b2/\b2.t=b1.t) (hk:∀ s,s≠d->∃ own,Holds w A H tm S own (S.at s) (tm s)/\∀ g,own g->g<w.heap.size->w'.heap[g]?=w.heap[g]?) {own afU:Nat->Prop} (Lu:∀ g,own g->g<w.heap.size->w'.heap[g]?=w.heap[g]? /\afU g) (hf:av.qE d=false) (h:Holds w A H tm S own av v):Holds w' A' H tm S' afU av v:=by
 have ann:∀ s,s≠d->Kept w w' A H tm tm S S' s:=λs hs=>⟨λr1 ex1=>hS s r1 ex1 hs,rfl,hk s hs⟩;have ayB:∀ {t:Ty} {q:Path} {r1:TV} {lB:List Value},depth q<=1->Ref tm S t d q r1 lB->r1=r/\Ref tm S' t d q r' lB:=by intro t q r1 lB hq hr;obtain⟨⟨ex1,h1,h2⟩,h3,⟨b1,h4,h5⟩,h6⟩:=hr;rw[hd] at h1;injection h1 with h1 h1';subst h1 h1';obtain⟨b2,k1,k2⟩:=sB q b1 h4;exact⟨rfl,⟨ex',hd',λp hp=>h2 p (hex p hp)⟩,AQ q hq h3,⟨b2,k1,k2.trans h5⟩,by rw[XB];exact h6⟩
 cases av with
 |dead=>trivial
 |undef=>exact h
 |v b ex1=>obtain⟨cs,h1,h2⟩:=h;exact⟨cs,h1,ca gy _ (λg hg hl=>(Lu g hg hl).1) (λg hg hl=>(Lu g hg hl).2) (λ_ h=>h) h2⟩
 |PJ l=>obtain⟨vs,τ,h1,h2,h3⟩:=h;refine⟨vs,τ,h1,h2,λj b hj=>?_⟩;obtain⟨u,cs,k1,k2,k3⟩:=h3 j b hj;exact⟨u,cs,k1,k2,ca gy _ (λg hg hl=>(Lu g hg.1 hl).1) (λg hg hl=>⟨(Lu g hg.1 hl).2,hg.2⟩) (λ_ h=>h) k3⟩
 |al t s p=>
  obtain⟨r1,lB,cs,hr,hc,hm⟩:=h;by_cases Xk:s=d
  ·subst Xk;cases p with
   |cons _ _=>simp[AV.qE] at hf
   |nil=>obtain⟨rfl,Xo⟩:=ayB (by simp[depth]) hr;exact⟨r',lB,cs,Xo,hc,hm⟩
  obtain⟨h1,h2⟩:=hr.kept gy (ann s Xk);exact⟨r1,lB,cs,h1,by rw[(h2 none).1];exact hc,hm⟩
 |ad t s p=>
 obtain⟨r1,lB,g,off,hr,hc,hm⟩:=h;by_cases Xk:s=d
 ·subst Xk;have aBa:depth p<=1:=by
   simp only[AV.qE,bV,aB] at hf;have: ¬ 2<=depth p:=λh2=>by rw[uc h2] at hf;cases hf
   omega
  obtain⟨rfl,Xo⟩:=ayB aBa hr;obtain⟨cs1,auY,m1,m2⟩:=hM;obtain rfl:=oP m1 hr.mat;obtain⟨ex1,e1,e2⟩:=Xo.at_;rw[hd'] at e1;injection e1 with _ e1;subst e1;refine⟨r',cs1,g,off,Xo,Lx (w:=w) p m2 e2 Xo.val aBa (by rw[XB];exact hc),hm⟩
 obtain⟨h1,h2⟩:=hr.kept gy (ann s Xk);exact⟨r1,lB,g,off,h1,by rw[(h2 none).2];exact hc,hm⟩
 |cut t s p lo hi=>
 obtain⟨r1,lB,t',A1,n,c,hr,ht,hc,hm⟩:=h;by_cases Xk:s=d
 ·subst Xk;simp[AV.qE] at hf
 obtain⟨h1,h2⟩:=hr.kept gy (ann s Xk);exact⟨r1,lB,t',A1,n,c,h1,ht,by rw[(h2 none).1];exact hc,hm⟩
 |EY f kE=>
 obtain⟨vs,h1,h2,h3⟩:=h;refine⟨vs,h1,h2,λj c hj=>?_⟩;obtain⟨u,k1,k2⟩:=h3 j c hj;refine⟨u,k1,?_⟩;cases c with
 |kv b=>exact fR gy _ k2
 |pl t s p=>
 by_cases Xk:s=d
 ·subst Xk;obtain⟨r1,lB,cs,hr,hc,hm⟩:=k2;cases p with
  |cons _ _=>have xB:=dh.1 hf _ (dv hj);simp at xB
  |nil=>obtain⟨rfl,Xo⟩:=ayB (by simp[depth]) hr;exact⟨r',lB,cs,Xo,hc,hm⟩
 exact It.kept gy (λt1 s1 p1 e1=>by injection e1 with _ e1 _;subst e1;exact ann _ Xk) k2
theorem af8:∀ (p h:Path),pre p h=true->∃ q,h=p++q
 |[],h,_=>⟨h,rfl⟩
 | .deref::p,.deref::h,e=>by obtain⟨q,rfl⟩:=af8 p h (by simpa[pre] using e);exact⟨q,rfl⟩
 | .fst::p,.fst::h,e=>by obtain⟨q,rfl⟩:=af8 p h (by simpa[pre] using e);exact⟨q,rfl⟩
 | .snd::p,.snd::h,e=>by obtain⟨q,rfl⟩:=af8 p h (by simpa[pre] using e);exact⟨q,rfl⟩
theorem take_at (e:S.pL x av=some (b,S1)) (hs:S1.at s=.v r ex):∃ ex0,S.at s=.v r ex0/\∀ q∈ex0,q∈ex:=by
 have ao3:∀ i,(S.put (some i) .dead).at s=.v r ex->S.at s=.v r ex:=by
  intro i h;rw[nj] at h;split at h
  ·simp[AV.refs] at h
  cases hr:(S.at s).refs i&&(S.at i).TK with
  |true=>rw[hr] at h;cases h
  |false=>rw[hr] at h;exact h
 cases av with
 |v b0 ex0=>
  simp only[St.pL] at e;cases hk:b0.m.fu with
  |true=>rw[hk] at e;simp only[ab,ah,aG] at e;obtain⟨_,rfl⟩:=e;exact⟨ex,hs,λ_ h=>h⟩
  |false=>
  rw[hk] at e;simp only[ae] at e;split at e
  ·simp only[ah,aG] at e;obtain⟨_,rfl⟩:=e;exact⟨ex,ao3 _ hs,λ_ h=>h⟩
  ·simp only[ah,aG] at e;obtain⟨_,rfl⟩:=e;exact⟨ex,hs,λ_ h=>h⟩
  cases e
 |al t s0 p=>
  simp only[St.pL] at e;split at e
  ·rename_i b' hb;cases hk:b'.m.fu with
   |true=>rw[hk] at e;simp only[ab,ah,aG] at e;obtain⟨_,rfl⟩:=e;exact⟨ex,hs,λ_ h=>h⟩
   |false=>
   rw[hk] at e;simp only[ae] at e;split at e
   ·simp only[ah,aG] at e;obtain⟨_,rfl⟩:=e;exact⟨ex,ao3 _ hs,λ_ h=>h⟩
   ·rename_i r2 ex2 _ nM;simp only[ah,aG] at e;obtain⟨_,rfl⟩:=e;rw[kN] at hs;split at hs
    ·rename_i hx;injection hs with h1 h2;subst h1 h2;rw[hx.1];exact⟨ex2,nM,λq hq=>eQ _ hq⟩
    rw[abn,zO] at hs;cases Ms:(S.at s).qE s0 with
    |true=>rw[Ms] at hs;simp at hs
    |false=>
    rw[Ms] at hs;simp only[ae] at hs;split at hs
    ·cases hx:(Nat.beq _ s0&&under _ _) with
     |true=>rw[hx] at hs;cases hs
     |false=>rw[hx] at hs;cases hs
    exact⟨ex,hs,λ_ h=>h⟩
   cases e
  cases e
 |cut t s0 p lo hi=>
  cases p with
  |cons _ _=>simp[St.pL] at e
  |nil=>
  simp only[St.pL] at e;split at e
  ·cases hl:Nat.beq lo 0 with
   |false=>rw[hl] at e;cases e
   |true=>rw[hl] at e;simp only[ab,ah,aG] at e;obtain⟨_,rfl⟩:=e;exact⟨ex,ao3 _ hs,λ_ h=>h⟩
  cases e
 |_=>simp[St.pL] at e
end Go.Pv
namespace Go.Pv
open List Int IntKind
variable {P:Program} {w w':World} {A A' Wr:Nat->Prop} {H:Nat->Value} {tm Nj:Nat->Value} {S S' S1:St} {σ eK:Nat->Option Nat} {w0:World} {W0 Z:Nat->Prop} {a:Act} {own:Nat->Prop} {v:Value} {Θ:nh} {dst:Option Nat}
theorem Fr.setRow (h:Fr w0 W0 w) (hg:w0.heap.size<=g∨W0 g):Fr w0 W0 (w.setRow g cs):=by refine⟨h.os,h.tape,h.output,by rw[jM];exact h.size,λk hk hn=>?_⟩;rw[kR w g k _ (λe=>by subst e;rcases hg with hg |hg;omega;exact hn hg)];exact h.block k hk hn
theorem ao4 (hT:ke P Θ=true) (ht:Θ.is T t=true) (hm:a7 t v cs) (hl:cs.length=t.size) (h1:∀ u∈cs,u.oneCell'=true) (hw:w.heap[g]?=some (.cells cur T' (0,0))) (hb:off+cs.length<=cur.size): (Instr.storeAt T (.pointer (some ⟨g,off,none⟩)) v).run P w=.ok () (w.setRow g (putCells cur.toList off cs).toArray):=by obtain⟨inf,hi,hs,_⟩:=wX hT ht;have:=run_storeCells_at (P:=P) g off T' cs 0 cur w hw (by omega) h1;simp only[dZ] at this;simp[Instr.storeAt,Instr.sureAddr,storeVar,sizeOf,typeInfo,hi,hs,zd hm h1,hl];rw[hl] at this;unfold putCells;rw[hl];simpa using this
theorem Uh:∀ (p h:Path),vh p h=true->Y0 p h=true->h=p
 |[],[],_,_=>rfl
 | .idx i::p,.idx j::h,e,e2=>by simp only[Y0,ai] at e2;rw[Uh p h (by simpa[vh] using e) e2.1,aw e2.2]
 | .deref::p,.deref::h,e,e2=>by rw[Uh p h (by simpa[vh] using e) (by simpa[Y0] using e2)]
 | .fst::p,.fst::h,e,e2=>by rw[Uh p h (by simpa[vh] using e) (by simpa[Y0] using e2)]
 | .snd::p,.snd::h,e,e2=>by rw[Uh p h (by simpa[vh] using e) (by simpa[Y0] using e2)]
 |[],.idx _::_,e,_ |[],.deref::_,e,_ |[],.fst::_,e,_ |[],.snd::_,e,_=>by simp[vh] at e
 | .idx _::_,[],e,_ | .deref::_,[],e,_ | .fst::_,[],e,_ | .snd::_,[],e,_=>by simp[vh] at e
 | .idx _::_,.deref::_,e,_ | .idx _::_,.fst::_,e,_ | .idx _::_,.snd::_,e,_=>by simp[vh] at e
 | .deref::_,.idx _::_,e,_ | .deref::_,.fst::_,e,_ | .deref::_,.snd::_,e,_=>by simp[vh] at e
 | .fst::_,.idx _::_,e,_ | .fst::_,.deref::_,e,_ | .fst::_,.snd::_,e,_=>by simp[vh] at e
 | .snd::_,.idx _::_,e,_ | .snd::_,.deref::_,e,_ | .snd::_,.fst::_,e,_=>by simp[vh] at e
theorem Ui:∀ {l:List Path},q∈(qc p l).2->q∈l
 |[],h=>h
 |x::r,h=>by
  simp only[qc] at h;cases ha:vh p x with
  |true=>rw[ha] at h;exact er _ h
  |false=>
  rw[ha] at h;simp only[ae,aV] at h;rcases h with h |h
  ·rw[h];exact lQ
  exact er _ (Ui h)
theorem Ru:∀ {l:List Path},(qc p l).1=true->(∀ q',q≠p++q')->q∈l->q∈(qc p l).2
 |[],_,_,h=>h
 |x::r,hc,hn,h=>by
  simp only[qc] at hc ⊢;cases ha:vh p x with
  |true=>
  rw[ha] at hc;simp only[ab] at hc ⊢;rcases aV.1 h with h |h
  ·subst h;exact absurd ((Uh p q ha hc).trans (b6 p).symm) (hn [])
  exact h
  |false=>
  rw[ha] at hc;simp only[ae] at hc ⊢;rcases aV.1 h with h |h
  ·rw[h];exact lQ
  exact er _ (Ru hc hn h)
def ayC (Θ:nh) (T:TypeId) (x y:Operand) (S S':St) (a:Act) (w w':World):Prop:=∃ (av av2:AV) (t:Ty) (s:Nat) (p:Path) (b:TV) (S1:St) (r r':TV) (ex0 ex1:List Path) (cs lB:List Value) (g off:Nat) (cur:Array Value) (T':TypeId),S.pT Θ 0 x=some av/\S.RZ x av=some (.pl t s p)/\S.pT Θ T y=some av2/\S.pL y av2=some (b,S1)/\S.at s=.v r ex0/\S'.at s=.v r' ex1/\r'.t=r.t/\(∃ b0,dP p r.t r.m r.x=some b0/\b.t=b0.t)/\ a7 b.t (a.eval y) cs/\cs.length=b.t.size/\a7 r.t (gV a s) lB/\addrAt w p r.t lB none=some (g,off)/\w.heap[g]?=some (.cells cur T' (0,0))/\off+cs.length<=cur.size/\w'=w.setRow g (putCells cur.toList off cs).toArray
theorem ak5 (hT:ke P Θ=true) (h:dp σ w0 W0 Z H S a w) (ho:o.op=.store T x y) (Fv:o.dst=none) (e:E0 Θ S T x y=some (true,S')): ∃ w' nK,(execOp a.eval o).run P w=.ok .skip w'/\dp nK w0 W0 Z H S' a w'/\ayC Θ T x y S S' a w w':=by
 unfold E0 at e;split at e;case h_2=>cases e
 rename_i av pU;split at e;case h_2=>cases e
 rename_i t s p aBb;unfold St.take at e;split at e;case h_2=>cases e
 rename_i b S1 hb;split at hb;case h_2=>cases hb
 rename_i av2 aid;cases hc:Θ.is T b.t with
 |false=>rw[hc] at e;cases e
 |true=>
  rw[hc] at e;simp only[ab] at e;split at e;case h_2=>cases e
  rename_i r ex hs1;split at e;case h_2=>cases e
  rename_i m z KT;cases hex:ex.all (λq=>!under q p) with
 |false=>rw[hex] at e;cases e
 |true=>
  rw[hex] at e
  simp only[ab,ah,aG] at e
  obtain⟨hds,e⟩:=e
  have Uj:open_ p ex:=rW (λq hq=>by simpa using aO.1 hex q hq)
  obtain⟨r0,ex0,q1,q2⟩:=Ow h pU aBb
  obtain⟨eK,cs,ow,h1,hm,hM,hk,hn⟩:=rX h aid hb
  obtain⟨aEL,q3,q4⟩:=take_at hb hs1
  rw[q1] at q3
  injection q3 with q3 q3'
  subst q3 q3'
  obtain⟨lB,g,off,hr,J3,hx⟩:=q2 (λq hq=>Uj q (q4 q hq))
  obtain⟨b0,hb0,Qg⟩:=hr.get
  -- the slot,behind the take
  have hh:=h1.holds s
  rw[hs1] at hh
  obtain⟨aBc,hm0,hM0⟩:=hh
  obtain rfl:=oP hr.mat hm0
  have ZG:s<S1.length:=qF (by rw[hs1];exact λe=>by cases e)
  obtain⟨kY,kF,c1,c2,c3,Ft⟩:=Xg p hM0 Uj hr.val hb0
  have rS:b.t=b0.t:=PS p KT hb0
  obtain⟨ME,Ft⟩:=Ft b (m,z) rS KT
  have hpm:cu p=false:=by
   cases hp:cu p with
   |false=>rfl
   |true=>rw[q8 p hp] at J3;cases J3
  -- the address is the same: the world is
  have aqG:addrAt w p r0.t lB none=some (g,off):=J3
  obtain⟨rJ,MD,cur,T',hw,hbound,_⟩:=ME g off aqG
  obtain⟨hlen,avd⟩:=rK _ hM
  have R4:off+cs.length<=cur.size:=by rw[hlen,rS];exact hbound
  have iD:=ao4 (P:=P) (w:=w) hT hc hm hlen avd hw R4
  have Uk:∀ g',ow g'->eK g'≠some s:=λg' dU e'=>by
   obtain⟨i,hi,AY⟩:=hk.now g' dU
   rw[e'] at AY
   injection AY with AY
   omega
  let lR:Nat->Option Nat:=λg'=>open Classical in if ow g' then some s else eK g'
  have af9:∀ g' i,lR g'=some i->(ow g'/\i=s)∨(¬ow g'/\eK g'=some i):=λg' i dU=>by
   simp only[lR] at dU
   split at dU
   ·injection dU with dU;exact .inl ⟨by assumption,dU.symm⟩
   ·exact .inr ⟨by assumption,dU⟩
  have aeK:∀ g' i,¬ow g'->eK g'=some i->lR g'=some i:=λg' i hn dU=>by simp only[lR,aq hn,dU]
  have ave:∀ g',Av lR Z g'->Av eK Z g':=λg' dU=>by
   rcases dU with⟨i,dU⟩ |dU
   ·rcases af9 g' i dU with⟨hx,_⟩ |⟨_,hx⟩
    ·obtain⟨j,_,hj⟩:=hk.now g' hx
     exact .inl ⟨j,hj⟩
    ·exact .inl ⟨i,hx⟩
   ·exact .inr dU
  have su:∀ k,k≠g->(w.setRow g (putCells cur.toList off cs).toArray).heap[k]?=w.heap[k]?:=λk hk=>kR w g k _ hk
  have gy:cR w (w.setRow g (putCells cur.toList off cs).toArray) (Av eK Z) (Av lR Z):=⟨λk hk _=>su k (λe'=>hk (by rw[e'];exact .inl ⟨s,rJ⟩)),λk _ hk=>ave k hk⟩
  have hMb:M (w.setRow g (putCells cur.toList off cs).toArray) (Av lR Z) H b.t b.m b.x cs ow (TQ p (qc p (ex.filter λq=>!pre p q)).2):=by
   refine ca ⟨λk uI _=>su k (λe'=>uI (by rw[e'];exact hk.Av.1 (.inl ⟨s,rJ⟩))),λk _ uI=>hk.Av.1 (ave k uI)⟩ _ (λk uI _=>su k (λe'=>Uk k uI (by rw[e'];exact rJ))) (λk uI _=>uI) (λ_ h=>by simp at h) hM
  have Ul:=Ft (w.setRow g (putCells cur.toList off cs).toArray) (Av lR Z) cs ow (qc p (ex.filter λq=>!pre p q)).2 gy (by rw[hlen,rS]) (λk hk1 hk2 _=>by
    rw[aqG]
    simp only[Gn]
    split
    ·rename_i hkg
     subst hkg
     exact⟨cur,T',hw,iw w k cur _ T' (0,0) hw⟩
    ·rename_i hkg
     exact su k hkg) hMb (λk hk1 _ hk2=>absurd hk2 (Uk k hk1)) (λq hq1 hq2=>by
    refine Ru hds hq1 (dD.2 ⟨hq2,?_⟩)
    cases hp:pre p q with
    |false=>rfl
    |true=>
     obtain⟨q',rfl⟩:=af8 p q hp
     exact absurd rfl (hq1 q'))
  rw[DZ p hpm] at Ul
  have axx:M (w.setRow g (putCells cur.toList off cs).toArray) (Av lR Z) H r0.t m z lB (λg'=>lR g'=some s) (qc p (ex.filter λq=>!pre p q)).2:=by
   refine ca (cR.refl _ _) _ (λ_ _ _=>rfl) (λk uI _=>?_) (λ_ h=>h) Ul
   rcases uI with⟨k1,_⟩ |k1
   ·exact aeK k s (λhx=>Uk k hx k1) k1
   ·simp only[lR,aA k1]
  have aBd:((S1.weaken s).set s (.v ⟨r0.t,m,z⟩ (qc p (ex.filter λq=>!pre p q)).2)).length=S1.length:=by simp[St.weaken]
  refine⟨w.setRow g (putCells cur.toList off cs).toArray,lR,?_,?_,av,av2,t,s,p,b,S1,r0,⟨r0.t,m,z⟩,_,_,cs,lB,g,off,cur,T',pU,aBb,aid,hb,q1,by rw[←e,kN,aA ⟨rfl,by simp[St.weaken];exact ZG⟩],rfl,⟨b0,hb0,rS⟩,hm,hlen,hr.mat,J3,hw,R4,rfl⟩
  ·simp only[execOp,ho,hx,a6,iD,aX]
   rfl
  ·show dp lR w0 W0 Z H S' a (w.setRow g (putCells cur.toList off cs).toArray)
   have nM:∀ i,S'.at i=if i=s then .v ⟨r0.t,m,z⟩ (qc p (ex.filter λq=>!pre p q)).2 else bif (S1.at i).qE s then .dead else S1.at i:=by
    intro i
    rw[←e,kN]
    by_cases hi:i=s
    ·rw[aA hi,aA ⟨hi,by simp[St.weaken];exact ZG⟩]
    ·rw[aq hi,aq (λh=>hi h.1),zO]
   refine⟨by rw[←e,aBd];exact h1.len,h1.defers,h1.fr.setRow (h1.new g s rJ),λg' i dU=>?_,λg' i dU=>?_,λg' dU=>⟨?_,(h1.old g' dU).2⟩,λi=>?_⟩
   ·rcases af9 g' i dU with⟨hx,_⟩ |⟨_,hx⟩
    ·obtain⟨j,_,hj⟩:=hk.now g' hx
     exact h1.new g' j hj
    ·exact h1.new g' i hx
   ·rw[jM]
    rcases af9 g' i dU with⟨hx,_⟩ |⟨_,hx⟩
    ·obtain⟨j,_,hj⟩:=hk.now g' hx
     exact h1.lt g' j hj
    ·exact h1.lt g' i hx
   ·have:=(h1.old g' dU).1
    simp only[lR]
    split
    ·rename_i hx
     obtain⟨j,_,hj⟩:=hk.now g' hx
     rw[this] at hj
     cases hj
    ·exact this
   ·rw[nM i]
    by_cases his:i=s
    ·subst his
     rw[aA rfl]
     exact⟨lB,hr.mat,axx⟩
    ·rw[aq his]
     by_cases hil:i<S1.length
     rotate_left
     ·have:S1.at i=.dead:=cd λhx=>hil (qF hx)
      rw[this]
      trivial
     cases Ms:(S1.at i).qE s with
     |true=>trivial
     |false=>
      simp only[ae]
      refine Rt (r:=r0) (r':=⟨r0.t,m,z⟩) (ex:=ex) (ex':=(qc p (ex.filter λq=>!pre p q)).2) gy rfl hs1 (by rw[nM s,aA rfl]) (λj r1 ex1 hj hv=>by rw[nM j,aq hj,hv];simp[AV.qE]) ⟨lB,_,hr.mat,axx⟩ (λq hq=>(dD.1 (Ui hq)).1)
       (λq hq hv=>Sd q p KT hpm hq hv) (λq b1 hq=>aqF q p KT hq m) (λj hj=>⟨_,h1.holds j,λg' dU _=>su g' (λe'=>by subst e';rw[rJ] at dU;injection dU with dU;exact hj dU.symm)⟩)
       (λg' dU _=>⟨su g' (λe'=>by subst e';rw[rJ] at dU;injection dU with dU;exact his dU.symm),aeK g' i (λhx=>?_) dU⟩) Ms (h1.holds i)
      obtain⟨j,hj1,Mt⟩:=hk.now g' hx
      rw[dU] at Mt
      injection Mt with Mt
      omega
theorem aqH (hT:ke P Θ=true) (h:dp σ w0 W0 Z H S a w) (ho:o.op=.store T x y) (Fv:o.dst=none) (e:E0 Θ S T x y=some (true,S')):ad2 P w0 W0 Z H S' a o.dst w (execOp a.eval o):=by obtain⟨w',nK,h1,h2,_⟩:=ak5 hT h ho Fv e;rw[Fv];exact⟨w',undef,.inr ⟨rfl,h1⟩,nK,h2⟩
end Go.Pv
namespace Go.Pv
open List Int IntKind
variable {P:Program} {w w':World} {A A' Wr:Nat->Prop} {H:Nat->Value} {tm Nj:Nat->Value} {S S' S1:St} {σ eK lR:Nat->Option Nat} {w0:World} {W0 Z:Nat->Prop} {a:Act} {own:Nat->Prop} {v:Value} {Θ:nh} {dst:Option Nat}
theorem aie (off:Nat):∀ (l:List Value) (k:Nat) (cells:Array Value),off+k+l.length<=cells.size-> ((l.zipIdx k).foldl (λ(cs:Array Value) (x:Value×Nat)=>cs.setIfInBounds (off+x.2) x.1) cells).toList=putCells cells.toList (off+k) l
 |[],k,cells,h=>by simp[putCells]
 |c::l,k,cells,h=>by
  simp only[List.zipIdx_cons,nN];simp only[an] at h;rw[aie off l (k+1) (cells.setIfInBounds (off+k) c) (by simp;omega)];have h1:off+k<cells.toList.length:=by simp;omega
  apply de;intro j;rw[yJ _ _ _ _ (by simp;omega),yJ _ _ _ _ (by simp;omega)];simp only[Array.toList_setIfInBounds,an];by_cases hj:j<off+k
  ·rw[aA (by omega),aA hj,lN (by omega)]
  by_cases Mt:j=off+k
  ·subst Mt;rw[aA (by omega),aq (by omega),aA (by omega),mW h1];simp
  by_cases hj3:j<off+k+1+l.length
  ·rw[aq (by omega),aA (by omega),aq (by omega),aA (by omega),show j - (off+k)=(j - (off+(k+1)))+1 from by omega];simp
  rw[aq (by omega),aq (by omega),aq (by omega),aq (by omega),lN (by omega)]
def Ly (kS:List (List Value)) (i:Nat):Nat:=((kS.take i).map length).sum
theorem MP (kS:List (List Value)) (i:Nat) (h:i<kS.length):kS.flatten=(kS.take i).flatten++(kS[i]++(kS.drop (i+1)).flatten):=by
 conv=>lhs;rw[←ep i kS]
 rw[List.flatten_append,aY h,gI]
theorem abr (kS:List (List Value)) (i:Nat):(kS.take i).flatten.length=Ly kS i:=by simp[Ly,rU]
theorem avf (kS:List (List Value)) (i:Nat) (c:List Value) (h:i<kS.length) (hc:c.length=kS[i].length):putCells kS.flatten (Ly kS i) c=(kS.set i c).flatten:=by
 have e1:=MP kS i h;have e2:=MP (kS.set i c) i (by simpa using h);rw[e2];simp only[List.getElem_set_self];rw[List.take_set_of_le (by omega),List.drop_set_of_lt (by omega)];have hd:kS.flatten.drop (Ly kS i+c.length)=(kS.drop (i+1)).flatten:=by rw[e1,←abr,hc,←bA,←au,dy]
 have ht:kS.flatten.take (Ly kS i)=(kS.take i).flatten:=by rw[e1,←abr,eh]
 unfold putCells;rw[hd,ht,bA]
theorem aqI (kS:List (List Value)) (i j:Nat) (c:List Value) (h:i<kS.length) (hc:c.length=kS[i].length):Ly (kS.set i c) j=Ly kS j:=by
 unfold Ly;congr 1;apply de;intro k;simp only[bR,bQ,gw];split
 ·by_cases hk:i=k
  ·subst hk;simp[h,hc]
  simp[hk]
 rfl
theorem aqJ (kS:List (List Value)) (i:Nat) (h:i<kS.length):Ly kS i+kS[i].length<=kS.flatten.length:=by rw[MP kS i h,au,au,abr];omega
def aif (f:Nat->Option (List Value)) (kS:List (List Value)):List (List Value):=kS.mapIdx λi c=>(f i).getD c
theorem aeL (place:Nat->Option (Nat×Nat)):∀ (parts:List (Nat×Value)) (kS:List (List Value)),(∀ i (h:i<kS.length),place i=some (Ly kS i,kS[i].length))->
  (∀ q∈parts,∃ h:q.1<kS.length,q.2.cells.size=kS[q.1].length)->(parts.map (·.1)).Nodup->
  Instr.fill place kS.flatten.toArray parts=some (aif (λi=>(parts.find? (λq=>Nat.beq q.1 i)).map (·.2.cells.toList)) kS).flatten.toArray
 |[],kS,_,_,_=>by
  have:aif (λi=>(([]:List (Nat×Value)).find? (λq=>Nat.beq q.1 i)).map (·.2.cells.toList)) kS=kS:=by
   unfold aif
   apply de
   intro k
   simp[rT]
  rw[this];rfl
 |(i,v)::rest,kS,hp,hs,hn=>by
  obtain⟨hi,hv⟩:=hs (i,v) (by simp)
  simp only at hi hv
  have R4:=aqJ kS i hi
  simp only[Instr.fill,hp i hi]
  have aBe:=R4
  rw[rU] at aBe
  rw[aq (by simp[hv];omega)]
  have hlen:v.cells.toList.length=kS[i].length:=by simpa using hv
  have aBf:v.cells.zipIdx.foldl (λcs (x:Value×Nat)=>cs.setIfInBounds (Ly kS i+x.2) x.1) kS.flatten.toArray=(kS.set i v.cells.toList).flatten.toArray:=by
   have:=aie (Ly kS i) v.cells.toList 0 kS.flatten.toArray (by simp only[hlen,cg];omega)
   rw[←avf kS i v.cells.toList hi hlen]
   apply il.1
   rw[←Array.foldl_toList,Array.toList_zipIdx]
   simpa using this
  simp only[bq,eJ] at hn
  have KT:∀ (k:Nat) (hk:k<(kS.set i v.cells.toList).length),(kS.set i v.cells.toList)[k].length=(kS[k]'(by simpa using hk)).length:=by
   intro k hk
   rw[List.getElem_set]
   split
   ·rename_i e;subst e;exact hlen
   ·rfl
  have ih:=aeL place rest (kS.set i v.cells.toList) (λk hk=>by rw[aqI kS i k _ hi hlen,KT k hk];exact hp k (by simpa using hk)) (λq hq=>by
   obtain⟨h1,h2⟩:=hs q (by simp[hq])
   exact⟨by simpa using h1,by rw[KT];exact h2⟩) hn.2
  refine(bB (λc=>Instr.fill place c rest) aBf).trans (ih.trans ?_)
  congr 3
  unfold aif
  apply de
  intro k
  simp only[rT,gw]
  by_cases hk:i=k
  ·subst hk
   have:rest.find? (λq=>Nat.beq q.1 i)=none:=List.find?_eq_none.2 λq hq e=>hn.1 (cv.2 ⟨q,hq,aw e⟩)
   simp[hi,this]
  ·have:Nat.beq i k=false:=by
    cases hb:Nat.beq i k with
    |false=>rfl
    |true=>exact absurd (aw hb) hk
   simp[hk,this]
end Go.Pv
namespace Go.Pv
open List Int IntKind
variable {P:Program} {w w':World} {A A' Wr:Nat->Prop} {H:Nat->Value} {tm Nj:Nat->Value} {S S' S1:St} {σ eK lR:Nat->Option Nat} {w0:World} {W0 Z:Nat->Prop} {a:Act} {own:Nat->Prop} {v:Value} {Θ:nh} {dst:Option Nat}
theorem vY.trans {ow1 Lv:Nat->Prop} (h1:vY σ eK n ow1) (h2:vY eK lR n Lv):vY σ lR n (λg=>ow1 g∨Lv g):=by
 refine⟨λg hg=>?_,λg hg=>?_,λg i hg hi=>h1.sub g i (h2.sub g i hg hi) hi,λg=>(h2.dom g).trans (h1.dom g),λg i hg hi=>h2.par g i (h1.par g i hg hi) hi⟩
 ·rcases hg with hg |hg
  ·exact h1.was g hg
  obtain⟨i,hi,AY⟩:=h2.was g hg;exact⟨i,hi,h1.sub g i AY hi⟩
 rcases hg with hg |hg
 ·obtain⟨i,hi,AY⟩:=h1.now g hg;exact⟨i,hi,h2.par g i AY hi⟩
 exact h2.now g hg
theorem vY.apart {ow1 Lv:Nat->Prop} (h1:vY σ eK n ow1) (h2:vY eK lR n Lv) (hg:ow1 g): ¬Lv g:=λMD=>by obtain⟨i,hi,AY⟩:=h1.now g hg;obtain⟨j,hj,Mt⟩:=h2.was g MD;rw[AY] at Mt;injection Mt with Mt;omega
theorem Iz:∀ (t:Ty),(zc t).length=t.size
 | .int _=>rfl | .bool=>rfl | .str=>rfl | .sl _=>rfl | .ptr _=>rfl | .unit=>rfl | .mp=>rfl
 | .pair a b=>by simp[zc,Ty.size,Iz a,Iz b]
 | .arr n t=>by simp[zc,Ty.size,rU,Iz t]
theorem MQ (hT:ke P Θ=true) (ps:List (Nat×Operand)):∀ (Ts:List TypeId) (j:Nat) {S S1:St} {σ:Nat->Option Nat} {l:List TV},dp σ w0 W0 Z H S a w->S.parts Θ ps Ts j=some (l,S1)-> ∃ (eK:Nat->Option Nat) (ow:Nat->Prop) (τ:Nat->Nat) (sr:List (List Value)),dp eK w0 W0 Z H S1 a w/\S1.length=S.length/\vY σ eK S.length ow/\sr.length=l.length/\l.length=Ts.length/\(∀ g,ow g->j<=τ g)/\ ∀ (k:Nat) (b:TV),l[k]?=some b->∃ cs,sr[k]?=some cs/\M w (Av σ Z) H b.t b.m b.x cs (λg=>ow g/\τ g=j+k) []/\ ((∃ q,ps.find? (λq=>Nat.beq q.1 (j+k))=some q/\a7 b.t (a.eval q.2) cs)∨(ps.find? (λq=>Nat.beq q.1 (j+k))=none/\cs=zc b.t))
 |[],j,S,S1,σ,l,h,e=>by simp only[St.parts,ah,aG] at e;obtain⟨rfl,rfl⟩:=e;exact⟨σ,λ_=>False,λ_=>j,[],h,rfl,vY.none _ _,rfl,rfl,λ_ h=>h.elim,λk b hk=>by simp at hk⟩
 |T::Ts,j,S,S1,σ,l,h,e=>by
  simp only[St.parts] at e;split at e
  ·rename_i q hq;unfold St.take at e;split at e;case h_2=>cases e
   rename_i b S2 hb;split at hb;case h_2=>cases hb
   rename_i av pU;split at e;case h_2=>cases e
   rename_i l2 S3 hl2;simp only[ah,aG] at e;obtain⟨rfl,rfl⟩:=e;obtain⟨eK,cs,ow,h1,hm,hM,hk,hn⟩:=rX h pU hb;obtain⟨lR,Lv,τ,sr,r1,r2,r3,r4,r5,r6,r7⟩:=MQ hT ps Ts (j+1) h1 hl2;rw[hn] at r3;have hap:∀ g,ow g->¬Lv g:=λg hg=>hk.apart r3 hg;let τ':Nat->Nat:=λg=>open Classical in if ow g then j else τ g
   refine⟨lR,λg=>ow g∨Lv g,τ',cs::sr,r1,by omega,hk.trans r3,by simp[r4],by simp[r5],λg hg=>?_,λk b' uI=>?_⟩
   ·simp only[τ'];split
    ·exact aR _
    rename_i hx;have:=r6 g (hg.resolve_left hx);omega
   cases k with
   |zero=>simp only[aE,ah] at uI;subst uI;refine⟨cs,rfl,ca (cR.refl _ _) _ (λ_ _ _=>rfl) (λg hg _=>⟨.inl hg,by simp only[τ',aA hg,dZ]⟩) (λ_ h=>h) hM,.inl ⟨q,hq,hm⟩⟩
   |succ k=>simp only[eY] at uI ⊢;obtain⟨c2,d1,d2,d3⟩:=r7 k b' uI;refine⟨c2,d1,ca ⟨λ_ _ _=>rfl,λg _ hg=>hk.Av.2 hg⟩ _ (λ_ _ _=>rfl) (λg hg _=>⟨.inr hg.1,?_⟩) (λ_ h=>h) d2,by rw[show j+(k+1)=j+1+k from by omega];exact d3⟩;simp only[τ'];rw[aq (λhx=>hap g hx hg.1),hg.2];omega
  rename_i hq;split at e;case h_2=>cases e
  rename_i b hb;split at e;case h_2=>cases e
  rename_i l2 S3 hl2;simp only[ah,aG] at e;obtain⟨rfl,rfl⟩:=e;obtain⟨i,inf,zv,_,_,hx,R4,_⟩:=XA hT hb;obtain⟨lR,Lv,τ,sr,r1,r2,r3,r4,r5,r6,r7⟩:=MQ hT ps Ts (j+1) h hl2;refine⟨lR,Lv,τ,zc b.t::sr,r1,r2,r3,by simp[r4],by simp[r5],λg hg=>by have:=r6 g hg;omega,λk b' uI=>?_⟩;cases k with
  |zero=>simp only[aE,ah] at uI;subst uI;refine⟨_,rfl,af7 ?_,.inr ⟨hq,rfl⟩⟩;rw[hx];exact abq _ R4
  |succ k=>simp only[eY] at uI ⊢;obtain⟨c2,d1,d2,d3⟩:=r7 k b' uI;exact⟨c2,d1,ca (cR.refl _ _) _ (λ_ _ _=>rfl) (λg hg _=>⟨hg.1,by rw[hg.2];omega⟩) (λ_ h=>h) d2,by rw[show j+(k+1)=j+1+k from by omega];exact d3⟩
theorem abt {ps:List (Nat×Operand)} {l:List TV} {sr:List (List Value)} {place:Nat->Option (Nat×Nat)} (hl:sr.length=l.length) (hpl:EZ l.length ps=true) (hlen:∀ (k:Nat) (b:TV) (cs:List Value),l[k]?=some b->sr[k]?=some cs->cs.length=b.t.size/\∀ u∈cs,u.oneCell'=true) (wS:∀ (k:Nat) (b:TV),l[k]?=some b->∃ cs,sr[k]?=some cs/\((∃ q,ps.find? (λq=>Nat.beq q.1 k)=some q/\a7 b.t (a.eval q.2) cs)∨(ps.find? (λq=>Nat.beq q.1 k)=none/\cs=zc b.t))) (aBg:∀ i (h:i<l.length),place i=some (Ly (l.map λb=>zc b.t) i,l[i].t.size)): Instr.fill place (l.map λb=>zc b.t).flatten.toArray (ps.map λq=>(q.1,a.eval q.2))=some sr.flatten.toArray:=by
 have hp:∀ {n:Nat} {ps:List (Nat×Operand)},EZ n ps=true->(∀ q∈ps,q.1<n)/\(ps.map (·.1)).Nodup:=by
  intro n ps;induction ps with
  |nil=>intro _;exact⟨λ_ h=>by simp at h,by simp⟩
  |cons q r ih=>
  intro h;simp only[EZ,ai] at h;obtain⟨⟨h1,h2⟩,h3⟩:=h;obtain⟨i1,i2⟩:=ih h3;refine⟨λq' NQ=>?_,?_⟩
  ·rcases aV.1 NQ with rfl |NQ
   ·exact jE (bH h1)
   exact i1 q' NQ
  simp only[bq,eJ];refine⟨λhm=>?_,i2⟩;obtain⟨q',NQ,e⟩:=cv.1 hm;have:(r.any λq'=>Nat.beq q'.1 q.1)=true:=dB.2 ⟨q',NQ,by rw[e];exact bV _⟩;rw[this] at h2;cases h2
 obtain⟨gU,hnd⟩:=hp hpl;have sB:∀ i (h:i<l.length),l[i]?=some l[i]:=λi h=>aU h;have aqB:∀ (i:Nat) (q:Nat×Operand),q∈ps->q.1=i->ps.find? (λq=>Nat.beq q.1 i)=some q:=by
  intro i q hq hi;subst hi;clear wS hlen aBg hpl gU;induction ps with
  |nil=>simp at hq
  |cons q' r ih=>
  simp only[bq,eJ] at hnd;rcases aV.1 hq with rfl |hq
  ·simp
  have:Nat.beq q'.1 q.1=false:=by
   cases hb:Nat.beq q'.1 q.1 with
   |false=>rfl
   |true=>exact absurd (cv.2 ⟨q,hq,(aw hb).symm⟩) hnd.1
  rw[List.find?_cons,this];exact ih hnd.2 hq
 rw[aeL place _ (l.map λb=>zc b.t) (λi h=>by
  rw[aBg i (by simpa using h)]
  simp[Iz]) (λq hq=>by
  obtain⟨q0,hq0,rfl⟩:=cv.1 hq
  have hi:=gU q0 hq0
  refine⟨by simpa using hi,?_⟩
  obtain⟨cs,h1,h2⟩:=wS q0.1 _ (sB q0.1 hi)
  obtain⟨h3,h4⟩:=hlen _ _ _ (sB q0.1 hi) h1
  rcases h2 with⟨q,NQ,hm⟩ |⟨NQ,_⟩
  ·rw[aqB q0.1 q0 hq0 rfl] at NQ
   injection NQ with NQ
   subst NQ
   rw[zd hm h4]
   simp[h3,Iz]
  ·rw[aqB q0.1 q0 hq0 rfl] at NQ;cases NQ) (by simpa[oa,ud] using hnd)]
 congr 3;unfold aif;apply de;intro k;rw[rT];by_cases hk:k<l.length
 ·simp only[bR,sB k hk,aS];obtain⟨cs,h1,h2⟩:=wS k _ (sB k hk);obtain⟨h3,h4⟩:=hlen _ _ _ (sB k hk) h1;rw[h1];rw[List.find?_map];simp only[ud];rcases h2 with⟨q,NQ,hm⟩ |⟨NQ,he⟩
  ·rw[NQ];simp only[aS,qx];rw[zd hm h4]
  rw[NQ];simp[he]
 rw[cA (by simpa using hk),cA (by omega)];rfl
end Go.Pv
namespace Go.Pv
open List Int IntKind
variable {P:Program} {w w':World} {A A' Wr:Nat->Prop} {H:Nat->Value} {tm Nj:Nat->Value} {S S' S1:St} {σ eK lR:Nat->Option Nat} {w0:World} {W0 Z:Nat->Prop} {a:Act} {own:Nat->Prop} {v:Value} {Θ:nh} {dst:Option Nat}
theorem axy {ow:Nat->Prop} {τ:Nat->Nat}:∀ (l:List TV) (sr:List (List Value)) (j:Nat),sr.length=l.length-> (∀ (k:Nat) (b:TV),l[k]?=some b->∃ cs,sr[k]?=some cs/\M w A H b.t b.m b.x cs (λg=>ow g/\τ g=j+k) [])-> M w A H (mkS l).t (mkS l).m (mkS l).x sr.flatten (λg=>ow g/\j<=τ g) []
 |[],sr,j,hl,_=>by obtain rfl:sr=[]:=ek (by simpa using hl);simp[mkS,M,K,Md.fu]
 |[a],sr,j,hl,h=>by
  obtain⟨cs,h1,h2⟩:=h 0 a rfl
  match sr,hl with
  |[c],_=>
   simp only[aE,ah] at h1
   subst h1
   simp only[mkS,gI,List.flatten_nil,b6]
   exact ca (cR.refl _ _) _ (λ_ _ _=>rfl) (λg hg _=>⟨hg.1,by rw[hg.2];omega⟩) (λ_ h=>h) h2
 |a::b::r,sr,j,hl,h=>by
  match sr,hl with
  |c::cs,hl=>
   obtain⟨c',h1,h2⟩:=h 0 a rfl
   simp only[aE,ah] at h1
   subst h1
   have ih:=axy (ow:=ow) (τ:=τ) (b::r) cs (j+1) (by simpa using hl) (λk b' hk=>by
    obtain⟨c',h1,h2⟩:=h (k+1) b' (by simpa using hk)
    exact⟨c',by simpa using h1,ca (cR.refl _ _) _ (λ_ _ _=>rfl) (λg hg _=>⟨hg.1,by rw[hg.2];omega⟩) (λ_ h=>h) h2⟩)
   simp only[mkS,gI]
   refine TP (s:=λg=>τ g=j) ?_ ?_
   ·exact ca (cR.refl _ _) _ (λ_ _ _=>rfl) (λg hg _=>⟨⟨hg.1,by rw[hg.2];omega⟩,by rw[hg.2];rfl⟩) (λ_ h=>by simp at h) h2
   ·exact ca (cR.refl _ _) _ (λ_ _ _=>rfl) (λg hg _=>⟨⟨hg.1,by omega⟩,by omega⟩) (λ_ h=>by simp at h) ih
theorem ak6 {ow:Nat->Prop} {τ:Nat->Nat} {l:List TV} {sr:List (List Value)} (hl:sr.length=l.length) (h:∀ (k:Nat) (b:TV),l[k]?=some b->∃ cs,sr[k]?=some cs/\M w A H b.t b.m b.x cs (λg=>ow g/\τ g=0+k) []): M w A H (qd l).t (qd l).m (qd l).x sr.flatten ow []:=by
 have h0:=axy (ow:=ow) (τ:=τ) l sr 0 hl h;have h1:M w A H (mkS l).t (mkS l).m (mkS l).x sr.flatten ow []:=ca (cR.refl _ _) _ (λ_ _ _=>rfl) (λg hg _=>hg.1) (λ_ h=>h) h0;cases l with
 |nil=>exact h1
 |cons a r=>
 cases r with
 |cons b r=>exact h1
 |nil=>have:M w A H (.pair a.t .unit) (mkM a.m .k) (a.x,()) (sr.flatten++[]) ow []:=TP (s:=λ_=>True) (ca (cR.refl _ _) _ (λ_ _ _=>rfl) (λg hg _=>⟨hg,trivial⟩) (λ_ h=>by simp at h) h1) (by simp[M,K,Md.fu]);rw[b6] at this;exact this
theorem ano:∀ (l:List TV) (k:Nat) (h:k<l.length),vX (if k+1=l.length then List.replicate k .snd else List.replicate k .snd++[.fst]) (mkS l).t=some l[k].t/\ cE (if k+1=l.length then List.replicate k .snd else List.replicate k .snd++[.fst]) (mkS l).t=Ly (l.map λb=>zc b.t) k
 |[a],k,h=>by obtain rfl:k=0:=(by simpa using h);simp[mkS,vX,cE,Ly]
 |a::b::r,0,h=>by simp[mkS,vX,cE,Ly]
 |a::b::r,k+1,h=>by
  obtain⟨h1,h2⟩:=ano (b::r) k (by simpa using h);have e:(if k+1+1=(a::b::r).length then List.replicate (k+1) Step.snd else List.replicate (k+1) .snd++[.fst])=.snd::(if k+1=(b::r).length then List.replicate k Step.snd else List.replicate k .snd++[.fst]):=by
   simp only[an];by_cases hk:k=r.length
   ·rw[aA (by omega),aA (by omega)];rfl
   rw[aq (by omega),aq (by omega)];rfl
  rw[e];simp only[mkS,vX,cE];refine⟨h1,?_⟩;rw[h2];simp only[bq,Ly,ob,bq,fF,Iz]
theorem af' (l:List TV) (k:Nat) (h:k<l.length):vX (J0 k l.length) (qd l).t=some l[k].t/\cE (J0 k l.length) (qd l).t=Ly (l.map λb=>zc b.t) k:=by
 match l,h with
 |[a],h=>
  obtain rfl:k=0:=by simpa using h
  simp[qd,J0,vX,cE,Ly]
 |a::b::r,h=>
  have:=ano (a::b::r) k h
  have e:J0 k (a::b::r).length=if k+1=(a::b::r).length then List.replicate k .snd else List.replicate k .snd++[.fst]:=by
   unfold J0
   by_cases hk:k+1=(a::b::r).length
   ·have h1:Nat.beq (k+1) (a::b::r).length=true:=by rw[←hk];exact bV _
    rw[aA hk,h1]
    have:Nat.beq (a::b::r).length 1=false:=by
     simp only[an]
     rfl
    rw[this]
    rfl
   ·rw[aq hk]
    have:Nat.beq (k+1) (a::b::r).length=false:=by
     cases hb:Nat.beq (k+1) (a::b::r).length with
     |false=>rfl
     |true=>exact absurd (aw hb) hk
    rw[this]
    rfl
  rw[e]
  exact this
theorem aih (l:List TV):zc (qd l).t=(l.map λb=>zc b.t).flatten:=by
 have h:∀ l:List TV,zc (mkS l).t=(l.map λb=>zc b.t).flatten:=by
  intro l;induction l with
  |nil=>simp[mkS,zc]
  |cons a r ih=>
  cases r with
  |nil=>simp[mkS]
  |cons b r=>simp only[mkS,zc,bq,gI];rw[ih];simp
 unfold qd;split
 ·simp[zc]
 exact h l
theorem mapM_some {α β:Type} {g:α->Option β} {h:α->β}:∀ (l:List α),(∀ f∈l,g f=some (h f))->l.mapM g=some (l.map h)
 |[],_=>by simp
 |f::r,hf=>by rw[sH,hf f (by simp),mapM_some r λf hf'=>hf f (by simp[hf'])];rfl
theorem aqK (hT:ke P Θ=true) (h:dp σ w0 W0 Z H S a w) (ho:o.op=.build T ps) (e:TN Θ S o.dst T ps.toList=some (true,S')):C8 P w0 W0 Z H S' a o.dst w (execOp a.eval o):=by
 unfold TN at e;split at e;case h_2=>cases e
 rename_i i hi;split at e;case h_2=>cases e
 rename_i l S1 hl;cases hc:(decide ((qd l).t=i.ty)&&TN.ap2 i.ty&&EZ l.length ps.toList) with
 |false=>rw[hc] at e;cases e
 |true=>
 rw[hc] at e;simp only[ab,ah,aG,cp] at e;simp only[ai,ax] at hc;obtain⟨⟨rS,axz⟩,hpl⟩:=hc;obtain⟨eK,ow,τ,sr,h1,hn,hk,C1,hll,hj,D1⟩:=MQ hT ps.toList i.fs 0 h hl;obtain⟨⟨_,inf,z,k1,k2,_,_,_,k3,k4⟩,hu,rfl⟩:=kP hT hi;obtain⟨pa,pb,hpp⟩:∃ pa pb,i.ty=.pair pa pb:=by cases aqL:i.ty<;>rw[aqL] at axz<;>first |exact⟨_,_,rfl⟩ |cases axz
 obtain⟨fs,f1,f2,f3,_⟩:=Iw hu hpp;have Xy:fs.toList.length=l.length:=by rw[hll,←f2,bh]
 have hM:M w (Av σ Z) H (qd l).t (qd l).m (qd l).x sr.flatten ow []:=ak6 C1 (λk b hb=>by obtain⟨cs,c1,c2,_⟩:=D1 k b hb;exact⟨cs,c1,c2⟩);have avg:∀ f∈fs.toList,(P.info? f.type).map (λi=>(f.offset,i.size))=some (f.offset,P.cellsOf f.type):=by intro f hf;obtain⟨k,hk,rfl⟩:=bL.1 hf;obtain⟨t,_,ht,_⟩:=zQ f3 k _ (aU hk);obtain⟨aDG,i1,i2,i3⟩:=wX hT ht;rw[i1,aS,i2,i3]
 have aqM:=abt (a:=a) (ps:=ps.toList) (l:=l) (sr:=sr) (place:=λk=>(fs.toList.map λf=>(f.offset,P.cellsOf f.type)).toArray[k]?) C1 hpl (λk b cs hb wS=>by
  obtain⟨kY,c1,c2,_⟩:=D1 k b hb
  rw[c1] at wS
  injection wS with wS
  subst wS
  exact rK _ c2) (λk b hb=>by
  obtain⟨kY,c1,_,c3⟩:=D1 k b hb
  simp only[aW] at c3
  exact⟨kY,c1,c3⟩) (λk hk=>by
  obtain⟨q1,q2⟩:=af' l k hk
  obtain⟨t,t1,t2,t3,_⟩:=zQ f3 k (fs.toList[k]'(by omega)) (aU (by omega))
  have hfs:fs.size=l.length:=by rw[←Xy,bT]
  rw[aW,←rS,hfs] at t1 t3
  rw[q1] at t1
  injection t1 with t1
  subst t1
  obtain⟨_,_,_,c3⟩:=wX hT t2
  rw[q2] at t3
  simp only[qH,bR,aU (show k<fs.toList.length by omega),aS,c3,t3])
 have ayD:P.built i.T (ps.map λ(j,x)=>(j,a.eval x)).toList=some sr.flatten.toArray:=by
  unfold Program.built;have hz:z.cells=(l.map λb=>zc b.t).flatten.toArray:=by rw[←aih,rS];have hag:isAgg i.ty=true:=(by rw[hpp];rfl);unfold a7 at k4;rw[aA hag] at k4;rw[k4];rfl
  rw[k1,f1];simp only[k3,mapM_some _ avg,hz];rw[nf];exact aqM
 have iD:=λw=>run_build (P:=P) w i.T _ _ ayD;rw[←e];have tZ:∀ w2,(execOp a.eval o).run P w2=.ok (.value (.agg sr.flatten.toArray)) w2:=λw2=>by simp only[execOp,ho,a6,iD w2,aX];rfl
 refine(Lw (b:=qd l) (cs:=sr.flatten) (v:=.agg sr.flatten.toArray) h1 hk hn (λw2 _=>tZ w2) ?_ hM).still tZ;unfold a7;rw[aA (by rw[rS,hpp];rfl)]
end Go.Pv
