/- A verified evaluator of the program's form over pure values, part 2: what it tells of a function holds. -/
import Derived.Test.YtafpcididdbipaaGreatDoorPv1
import Derived.Laws.BytesString
import Derived.Laws.Cells
import Derived.Laws.CopyRow
import Derived.Laws.Entries
import Derived.Laws.MakeOwn
import Derived.Laws.OwnMore
import Derived.Laws.Shifts
import Derived.Laws.Strings
import Derived.Laws.StructEq
import Derived.Laws.Tables
import Derived.Maps.AppendAt
set_option linter.unusedSimpArgs false
set_option linter.unusedVariables false
noncomputable section
namespace Go.Pv
open List Int IntKind
variable {P:Program} {w w':World} {A A':Nat->Prop} {H:Nat->Value} {tm FP:Nat->Value} {S S':St} {σ:Nat->Option Nat} {w0:World} {W0 Z:Nat->Prop} {a:Act} {own:Nat->Prop} {v:Value} {Θ:fA} {dst:Option Nat} {g:Bool}
def RB (P:Program) (w0:World) (W0 Z:Nat->Prop) (H:Nat->Value) (S':St) (a:Act) (dst:Option Nat) (w:World) (s:Sem Next):Prop:=∃ w' v,(s.run P w=.ok (.value v) w'∨(v=undef/\s.run P w=.ok .skip w'))/\Rel w0 W0 Z H S' (a.put dst v) w'
def Ext (w w':World):Prop:=∀ g,g<w.heap.size->w'.heap[g]?=w.heap[g]?
theorem Ext.refl (w:World):Ext w w:=λ_ _=>rfl
theorem Ext.stays (h:Ext w w'):aU w w' A A:=⟨λg _ hg=>h g hg,λ_ _ h=>h⟩
def rq (P:Program) (w0:World) (W0 Z:Nat->Prop) (H:Nat->Value) (S':St) (a:Act) (dst:Option Nat) (w:World) (s:Sem Next):Prop:=∃ v,(∀ w2,Ext w w2->s.run P w2=.ok (.value v) w2)/\Rel w0 W0 Z H S' (a.put dst v) w
theorem rq.goes {s:Sem Next} (h:rq P w0 W0 Z H S' a dst w s):RB P w0 W0 Z H S' a dst w s:=by obtain⟨v,h1,h2⟩:=h;exact⟨w,v,.inl (h1 w (Ext.refl w)),h2⟩
theorem dX {s:Sem Next} {av:AV} (h:a6 σ w0 W0 Z H S a w) (hr:∀ w2,Ext w w2->s.run P w2=.ok (.value v) w2) (hv:Holds w (Av σ Z) H (cn a) S (λ_=>False) av v): rq P w0 W0 Z H (S.put dst av) a dst w s:=⟨v,hr,_,h.pure hv⟩
def wa (P:Program) (w0:World) (W0 Z:Nat->Prop) (H:Nat->Value) (S':St) (a:Act) (dst:Option Nat) (w:World) (s:Sem Next):Prop:=∃ v,(∀ w2,s.run P w2=.ok (.value v) w2)/\Rel w0 W0 Z H S' (a.put dst v) w
theorem wa.q {s:Sem Next} (h:wa P w0 W0 Z H S' a dst w s):rq P w0 W0 Z H S' a dst w s:=by obtain⟨v,h1,h2⟩:=h;exact⟨v,λw2 _=>h1 w2,h2⟩
theorem dm {s:Sem Next} {av:AV} (h:a6 σ w0 W0 Z H S a w) (hr:∀ w2,s.run P w2=.ok (.value v) w2) (hv:Holds w (Av σ Z) H (cn a) S (λ_=>False) av v): wa P w0 W0 Z H (S.put dst av) a dst w s:=⟨v,hr,_,h.pure hv⟩
def scalar:Ty->Bool
 | .int _=>true | .bool=>true | .str=>true |_=>false
theorem RC {V':Nat->Prop} {tm1:Nat->Value} {S2:St} {r:TV} {v1 v2:Value} (hs:scalar r.t=true) (h1:Holds w A H tm S own (.v r []) v1) (h2:Holds w' A' H tm1 S2 V' (.v r []) v2):v1=v2:=by
 obtain⟨rt,rm,rx⟩:=r;obtain⟨cs,a1,a2⟩:=h1;obtain⟨fH,b1,b2⟩:=h2;cases rt<;>simp[scalar] at hs<;>simp only[M] at a2 b2
 ·rw[e9 a1 a2.2,e9 b1 b2.2]
 ·rw[gz a1 a2.2,gz b1 b2.2]
 rw[kY a1 a2.2,kY b1 b2.2]
theorem ER (h:a6 σ w0 W0 Z H S a w) {T:TypeId} {x:Operand} {a' av:AV} (ho:S.jT Θ T x=some a') (hc:S.copy x a'=some av): Holds w (Av σ Z) H (cn a) S (λ_=>False) av (a.eval x):=by
 have hh:=bM h ho;cases a' with
 |v b ex=>
  simp only[St.copy] at hc;cases hk:b.m.b5 with
  |true=>simp only[hk,cond_true,Option.some.injEq] at hc;subst hc;obtain⟨cs,h1,h2⟩:=hh;obtain⟨bt,bm,bx⟩:=b;refine⟨cs,h1,?_⟩;exact CG hk (nj _ hk h2)
  |false=>
  simp only[hk,cond_false] at hc;cases x with
  |tmp i=>simp only[Option.some.injEq] at hc;subst hc;simp only[St.jT,Option.some.injEq] at ho;obtain⟨cs,h1,h2⟩:=hh;exact⟨b,cs,cs,⟨⟨ex,ho,λq _ s r e=>by cases q<;>simp at e⟩,trivial,⟨b,rfl,rfl⟩,h1⟩,rfl,h1⟩
  |const c=>
   cases ex with
   |cons _ _=>simp at hc
   |nil=>simp only[Option.some.injEq] at hc;subst hc;obtain⟨cs,h1,h2⟩:=hh;exact⟨cs,h1,aG (aU.refl _ _) _ (λ_ _ _=>rfl) (λg hg _=>by obtain⟨i,hi,_⟩:=hg;cases hi) (λ_ h=>h) h2⟩
  |func f=>
   cases ex with
   |cons _ _=>simp at hc
   |nil=>simp[St.jT] at ho
  |global f=>
  cases ex with
  |cons _ _=>simp at hc
  |nil=>simp[St.jT] at ho
 |dead=>simp[St.copy] at hc
 |Ih l=>simp[St.copy] at hc
 |undef=>simp only[St.copy,Option.some.injEq] at hc;subst hc;exact hh
 |al t s p=>simp only[St.copy,Option.some.injEq] at hc;subst hc;exact hh
 |ad t s p=>simp only[St.copy,Option.some.injEq] at hc;subst hc;exact hh
 |cut t s p lo hi=>simp only[St.copy,Option.some.injEq] at hc;subst hc;exact hh
 |vY f c=>simp only[St.copy,Option.some.injEq] at hc;subst hc;exact hh
theorem akB (h:a6 σ w0 W0 Z H S a w) {o:Oper} {x:Operand} (ho:o.op=.move x) (hnt:∀ l,S.jT Θ o.type x≠some (.Ih l)) (e:EB Θ S o.dst o.type x=some (true,S')):wa P w0 W0 Z H S' a o.dst w (execOp a.eval o):=by
 unfold EB at e;split at e
 ·rename_i l hl;exact absurd hl (hnt l)
 ·rename_i a' _ ha;split at e
  ·rename_i av hv;injection e with e;injection e with _ e;subst e;exact dm h (λw2=>by simp only[execOp,ho];rfl) (ER h ha hv)
  cases e
 cases e
theorem agD {op:BinOp} {k k':IntKind} {x y:Int} {r:TV} (T:TypeId) (hk:k=k'∨op=.shl∨op=.shr) (e:akk op k x y=some (true,r)): ∃ v,(binOp op T (.int k x) (.int k' y)).run P w=.ok v w/\Holds w A H tm S (λ_=>False) (.v r []) v:=by
 cases op<;>simp only[akk,Option.some.injEq,Prod.mk.injEq,reduceCtorEq,true_and] at e;case add=>
  obtain rfl:k=k':=by simpa using hk
  subst e;exact⟨_,by simp[binOp,Op.intArith],gY _ _⟩
 case sub=>
  obtain rfl:k=k':=by simpa using hk
  subst e;exact⟨_,by simp[binOp,Op.intArith],gY _ _⟩
 case mul=>
  obtain rfl:k=k':=by simpa using hk
  subst e;exact⟨_,by simp[binOp,Op.intArith],gY _ _⟩
 case quo=>
  obtain rfl:k=k':=by simpa using hk
  obtain⟨e0,rfl⟩:=e
  have h0: ¬y=0:=by simpa using e0
  exact⟨_,by simp[binOp,Op.intDiv,h0],gY _ _⟩
 case rem=>
  obtain rfl:k=k':=by simpa using hk
  obtain⟨e0,rfl⟩:=e
  have h0: ¬y=0:=by simpa using e0
  exact⟨_,by simp[binOp,Op.intDiv,h0],gY _ _⟩
 case and=>
  obtain rfl:k=k':=by simpa using hk
  subst e;exact⟨_,by simp[binOp,Op.intBits],gY _ _⟩
 case or=>
  obtain rfl:k=k':=by simpa using hk
  subst e;exact⟨_,by simp[binOp,Op.intBits],gY _ _⟩
 case xor=>
  obtain rfl:k=k':=by simpa using hk
  subst e;exact⟨_,by simp[binOp,Op.intBits],gY _ _⟩
 case eql=>
  obtain rfl:k=k':=by simpa using hk
  subst e;exact⟨_,by simp[binOp,Op.intCmp],eI _⟩
 case neq=>
  obtain rfl:k=k':=by simpa using hk
  subst e;exact⟨_,by simp[binOp,Op.intCmp],eI _⟩
 case lss=>
  obtain rfl:k=k':=by simpa using hk
  subst e;exact⟨_,by simp[binOp,Op.intCmp],eI _⟩
 case leq=>
  obtain rfl:k=k':=by simpa using hk
  subst e;exact⟨_,by simp[binOp,Op.intCmp],eI _⟩
 case gtr=>
  obtain rfl:k=k':=by simpa using hk
  subst e;exact⟨_,by simp[binOp,Op.intCmp],eI _⟩
 case geq=>
  obtain rfl:k=k':=by simpa using hk
  subst e;exact⟨_,by simp[binOp,Op.intCmp],eI _⟩
 case shl=>
  obtain⟨e0,rfl⟩:=e
  have h0: ¬y<0:=by
   have:0<=y:=by simpa using e0
   omega
  exact⟨_,by simp[binOp,Op.shift,h0],gY _ _⟩
 case shr=>
  obtain⟨e0,rfl⟩:=e
  have h0: ¬y<0:=by
   have:0<=y:=by simpa using e0
   omega
  exact⟨_,by simp[binOp,Op.shift,h0],gY _ _⟩
theorem agE {op:BinOp} {x y:ByteArray} {r:TV} (T:TypeId) (e:akl op x y=some (true,r)): ∃ v,(binOp op T (.string x) (.string y)).run P w=.ok v w/\Holds w A H tm S (λ_=>False) (.v r []) v:=by
 cases op<;>simp only[akl,Option.some.injEq,Prod.mk.injEq,reduceCtorEq,true_and] at e;case add=>
  obtain⟨e0,rfl⟩:=e
  have h0:x.size+y.size<=9223372036854775807:=by simpa using e0
  refine⟨_,?_,U9 _⟩
  rw[binOp_string_add]
  simp only[Op.stringOp,IntKind.max_i64]
  rw[if_neg (by omega)]
  rfl
 case eql=>subst e;exact⟨_,by rw[binOp_string_eql];rfl,eI _⟩
 case neq=>subst e;exact⟨_,by rw[binOp_string_neq];rfl,eI _⟩
theorem Yr {op:UnOp} {b r:TV} {v:Value} {cs:List Value} (hm:ah b.t v cs) (hK:K w (λ_=>False) b.t b.x cs) (e:akm op b=some r): ∃ u,(Op.unary op v).run P w=.ok u w/\Holds w A H tm S (λ_=>False) (.v r []) u:=by
 unfold akm at e;split at e
 ·injection e with e;subst e;obtain rfl:=gz hm hK;exact⟨_,rfl,eI _⟩
 ·injection e with e;subst e;obtain rfl:=e9 hm hK;exact⟨_,rfl,gY _ _⟩
 ·injection e with e;subst e;obtain rfl:=e9 hm hK;exact⟨_,by simp[Op.unary,Op.intBits],gY _ _⟩
 cases e
theorem ap6 (h:a6 σ w0 W0 Z H S a w) {o:Oper} {op:UnOp} {T:TypeId} {x:Operand} (ho:o.op=.unOp op T x) (e:anv Θ S o.dst op x=some (true,S')):rq P w0 W0 Z H S' a o.dst w (execOp a.eval o):=by
 unfold anv at e;split at e
 ·rename_i b hb;split at e
  ·rename_i r hr;injection e with e;injection e with _ e;subst e;obtain⟨cs,h1,h2,_⟩:=kQ h hb;obtain⟨u,h3,h4⟩:=Yr (P:=P) (A:=Av σ Z) (H:=H) (tm:=cn a) (S:=S) h1 h2 hr;have hsc:scalar r.t=true:=by unfold akm at hr;split at hr<;>first |(injection hr with hr;subst hr;rfl) |cases hr
   refine dX h (λw2 hw=>?_) h4;obtain⟨u2,k3,k4⟩:=Yr (w:=w2) (P:=P) (A:=Av σ Z) (H:=H) (tm:=cn a) (S:=S) h1 (cv hw.stays _ h2) hr;rw[RC hsc h4 k4];simp[execOp,ho,k3]
  cases e
 cases e
theorem RD (hT:eA P Θ=true) (h:a6 σ w0 W0 Z H S a w) {o:Oper} {T T':TypeId} {x:Operand} (ho:o.op=.convert T T' x) (hk:(match Θ.find T' with
  |some i=>(match i.ty with
   | .int _=>true
   |_=>false)
  |none=>false)=true) (e:qm Θ S o.dst T T' x=some (true,S')):wa P w0 W0 Z H S' a o.dst w (execOp a.eval o):=by
 unfold qm at e
 split at e
 ·rename_i k m n i _ k' _ _ hb hi hj
  injection e with e;injection e with _ e;subst e
  obtain⟨cs,h1,h2,_⟩:=kQ h hb
  have hv:=e9 h1 h2
  obtain⟨_,hu,rfl⟩:=fJ hT hi
  obtain⟨_,Il,hT'⟩:=fJ hT hj
  obtain⟨d,hd⟩:=(L1 hu).1
  have hd':=LZ Il rfl
  rw[hT'] at hd'
  refine dm h (v:=.int k' (k'.wrap n)) (λw2=>?_) (gY _ _)
  simp[execOp,ho,hv,convert,run_underlying hd,run_underlying hd',Conv.intToInt]
 ·rename_i hj
  rw[hj] at hk
  cases hk
 ·cases e
theorem Ys (hT:eA P Θ=true) (h:a6 σ w0 W0 Z H S a w) {o:Oper} {T T':TypeId} {x:Operand} (ho:o.op=.convert T T' x) (e:qm Θ S o.dst T T' x=some (true,S')):rq P w0 W0 Z H S' a o.dst w (execOp a.eval o):=by
 have e0:=e;unfold qm at e;split at e
 ·rename_i hj;exact(RD hT h ho (by rw[hj]) e0).q
 ·rename_i m xs _ _ _ _ _ _ hb hi hj;injection e with e;injection e with _ e;subst e;obtain⟨cs,h1,h2,_⟩:=kQ h hb;obtain⟨X,c,hv,rfl,hc⟩:=Au h1 h2;obtain⟨_,hu,hT0⟩:=fJ hT hi;obtain⟨_,Il,hT'⟩:=fJ hT hj;obtain⟨hd,he,_⟩:=yG hu rfl;have hd':=EO Il rfl;obtain⟨ie,hie,lU⟩:=jW he;obtain⟨_,hue,hTe⟩:=fJ hT hie;have hde:=LZ hue lU;simp only at hT0 hT' hd hd';rw[hT0] at hd;rw[hT'] at hd';rw[hTe] at hde;refine dX h (v:=.string (bytesOf xs)) (λw2 hw=>?_) ⟨[.string (bytesOf xs)],by simp[ah,isAgg],by simp[M,K,Md.b5]⟩;have hK:=cv hw.stays _ h2;simp only[execOp,ho,hv,Sem.run_bind];rw[run_convert_bytes_string w2 T T' _ X xs.length c hd hde hd'];simp only[K] at hK;obtain⟨X',c',e1,_,hx⟩:=hK;simp only[List.cons.injEq,Value.slice.injEq,and_true] at e1;obtain⟨rfl,_,rfl⟩:=e1;by_cases h0:0<xs.length
  ·obtain⟨g,off,cur,T2,fr,rfl,_,BF,hlen,I1⟩:=hx h0;rw[run_bytesToString w2 ⟨g,off,none⟩ xs.length c xs ?_]
   ·simp[bytesOf,Sem.run_pure]
   have:=run_loadCells_list (P:=P) (w:=w2) ⟨g,off,none⟩ (xs.map (Value.int .u8)) (λj v hj=>?_)
   ·rwa [List.length_map] at this
   rw[List.getElem?_map] at hj;cases Ew:xs[j]? with
   |none=>rw[Ew] at hj;cases hj
   |some n=>
   rw[Ew] at hj;simp only[Option.map_some,Option.some.injEq] at hj;subst hj;have FU:=(List.getElem?_eq_some_iff.1 Ew).1;have h3:=I1 j FU;have hn:xs[j]=n:=(List.getElem?_eq_some_iff.1 Ew).2;simp only[K,Ty.size,Nat.mul_one] at h3;rw[hn] at h3;have h4:(cur.toList.drop (off+j)).head?=some (.int .u8 n):=by
    cases hd:cur.toList.drop (off+j) with
    |nil=>rw[hd] at h3;simp at h3
    |cons y r=>rw[hd] at h3;simp at h3;simp[h3]
   rw[List.head?_drop] at h4;rw[Addr.add_lit];simp only[World.cell?,BF];rw[←Array.getElem?_toList,h4];rfl
  have:xs=[]:=List.eq_nil_of_length_eq_zero (by omega);subst this;cases X with
  |none=>simp[Conv.bytesToString,bytesOf,Sem.run_pure]
  |some A=>show((Conv.bytesToString (Value.slice (some A) 0 c)).run P w2).andThen _=_;rw[run_bytesToString w2 A 0 c [] (by simpa using run_loadCells_list (P:=P) (w:=w2) A [] (λj v hj=>by simp at hj))];simp[bytesOf,Sem.run_pure]
 cases e
theorem afa (x y:ByteArray):(x==y)=(x.toList==y.toList):=beq_toListBytes x y
theorem U' {t:Ty} (h:isAgg t=false):t.size=1:=by cases t<;>simp[isAgg] at h<;>rfl
theorem C' (hT:eA P Θ=true) {T:TypeId} {t:Ty} (ht:Θ.is T t=true) {cs:List Value} {off:Nat} (hlen:off+t.size<=cs.length): ∃ u,(part T cs.toArray off).run P w=.ok u w/\ah t u ((cs.drop off).take t.size):=by
 have hag:=abk hT ht w;obtain⟨inf,s1,s2,_⟩:=qt hT ht;have hso:(sizeOf T).run P w=.ok t.size w:=by simp[sizeOf,typeInfo,s1,s2]
 cases hca:isAgg t with
 |true=>
 refine⟨.agg (cs.toArray.extract off (off+t.size)),?_,?_⟩
 ·rw[hca] at hag;unfold part;simp only[Sem.run_bind,hag,Result.andThen_ok,if_true,hso];rfl
 unfold ah;rw[if_pos hca];congr 1;apply Array.toList_inj.1;rw[Array.toList_extract,List.toList_toArray,List.toList_toArray,List.extract_eq_drop_take'];rw[List.drop_take,Nat.add_sub_cancel_left]
 |false=>
 have h1:=U' hca;have abl:off<cs.length:=by omega
 refine⟨cs[off],?_,?_⟩
 ·rw[hca] at hag;unfold part;simp only[Sem.run_bind,hag,Result.andThen_ok,if_neg Bool.false_ne_true];rw[List.getElem?_toArray,List.getElem?_eq_getElem abl];rfl
 unfold ah;rw[if_neg (by rw[hca];exact Bool.false_ne_true),h1,List.drop_eq_getElem_cons abl,List.take_succ_cons,List.take_zero]
theorem Yt:∀ (p q:Path) (t:Ty),pN (p++q) t=(pN p t).bind (pN q):=by
 intro p;induction p with
 |nil=>intro q t;rfl
 |cons s p ih=>intro q t;cases s<;>cases t<;>first |rfl |exact ih q _
theorem RE:∀ (p q:Path) (t u:Ty),pN p t=some u->aE (p++q) t=aE p t+aE q u:=by
 intro p;induction p with
 |nil=>intro q t u h;simp only[pN,Option.some.injEq] at h;subst h;simp[aE]
 |cons s p ih=>
 intro q t u h;cases s<;>cases t<;>simp only[pN,reduceCtorEq] at h
 ·simp only[List.cons_append,aE];exact ih q _ u h
 simp only[List.cons_append,aE];rw[ih q _ u h];omega
theorem anD {k n:Nat} (h2:2<=n):BD k n=if k+1=n then List.replicate k .snd else List.replicate k .snd++[.fst]:=by
 unfold BD;have h1:Nat.beq n 1=false:=by
  cases hb:Nat.beq n 1 with
  |false=>rfl
  |true=>have:=Nat.eq_of_beq_eq_true hb;omega
 by_cases hkn:k+1=n
 ·rw[if_pos hkn,hkn,Nat.beq_refl,h1];rfl
 have:Nat.beq (k+1) n=false:=by
  cases hb:Nat.beq (k+1) n with
  |false=>rfl
  |true=>exact absurd (Nat.eq_of_beq_eq_true hb) hkn
 rw[if_neg hkn,this];rfl
theorem Im {t:Ty} {v:Value} {cs:List Value} (ha:isAgg t=true) (h:ah t v cs):v=.agg cs.toArray:=by simpa[ah,ha] using h
theorem L2 (hT:eA P Θ=true):∀ (d:Nat) (t:Ty) {T:TypeId} {x y:t.I} {r:Bool} {cs fH:List Value} {u v:Value},Θ.is T t=true->UL t x y=some r->ah t u cs->ah t v fH->K w (λ_=>False) t x cs->K w (λ_=>False) t y fH->t.ht<d->
  (Op.equalIn d T u v).run P w=.ok r w
 |0,_,_,_,_,_,_,_,_,_,_,_,_,_,_,_,hd=>absurd hd (Nat.not_lt_zero _)
 |d+1,t,T,x,y,r,cs,fH,u,v,hT1,he,hu,hv,hx,hy,hd=>by
  obtain⟨i,hi,lU⟩:=jW hT1
  obtain⟨_,Um,h3⟩:=fJ hT hi
  cases t with
  |int k=>
   have Il:=LZ Um lU
   rw[h3] at Il
   simp only[UL,Option.some.injEq] at he
   subst he
   obtain rfl:=e9 hu hx
   obtain rfl:=e9 hv hy
   rw[run_equalIn_int w d T k k _ _ Il]
   congr 1
  |bool=>
   have Il:=L0 Um lU
   rw[h3] at Il
   simp only[UL,Option.some.injEq] at he
   subst he
   obtain rfl:=gz hu hx
   obtain rfl:=gz hv hy
   exact run_equalIn_bool' w d T _ _ Il
  |str=>
   have Il:=EO Um lU
   rw[h3] at Il
   simp only[UL,Option.some.injEq] at he
   subst he
   obtain rfl:=kY hu hx
   obtain rfl:=kY hv hy
   rw[run_equalIn_string w d T _ _ Il,afa]
  |unit=>exact absurd lU (L1 Um).2.2
  |sl t=>simp[UL] at he
  |ptr t=>simp[UL] at he
  |arr n t=>simp[UL] at he
  |mp=>simp[UL] at he
  |pair pa pb=>
   obtain⟨fs,hfs,hft,tM,hg,hsh,hnb⟩:=As Um lU
   rw[h3] at hfs hsh
   obtain rfl:=Im rfl hu
   obtain rfl:=Im rfl hv
   have hfo:P.fieldsOf T=fs:=by unfold Program.fieldsOf;rw[hfs]
   rw[run_equalIn_struct w d T _ _ (by rw[hfo];exact hfs) hsh,hfo]
   have hlx:=(xV _ hx).1
   have hly:=(xV _ hy).1
   rw[lU] at tM
   have OF:fs.toList.length=i.fs.length:=by rw[←hft,List.length_map]
   have hU:=amB hT hi
   unfold uOK at hU
   rw[Bool.and_eq_true,lU] at hU
   have hU:=hU.2
   rcases Nat.lt_or_ge fs.size 2 with h2 |h2
   ·match hfi:i.fs,hfe:fs.toList with
    |[],_=>rw[hfi] at hU;simp at hU
    |[T1],[f]=>
     rw[hfi] at hU
     cases pb<;>simp at hU
     rw[hfe] at tM
     have hs1:fs.size=1:=by rw[←Array.length_toList,hfe];rfl
     simp only[x5,hs1,Bool.and_true] at tM
     have e1:BD 0 1=[.fst]:=rfl
     rw[e1] at tM
     simp only[pN,aE,Bool.and_eq_true] at tM
     obtain⟨⟨k1,k2⟩,k3⟩:=tM
     have k2:=Nat.eq_of_beq_eq_true k2
     simp only[Ty.size,Nat.add_zero] at hlx hly
     obtain⟨u1,p1,p2⟩:=C' (w:=w) hT k1 (cs:=cs) (off:=0) (by omega)
     obtain⟨v1,q1,q2⟩:=C' (w:=w) hT k1 (cs:=fH) (off:=0) (by omega)
     rw[List.drop_zero,List.take_of_length_le (by omega)] at p2 q2
     simp only[UL] at he
     split at he
     case h_2=>cases he
     rename_i p q hp hq
     injection hq with hq
     subst hq
     injection he with he
     subst he
     simp only[K] at hx hy
     obtain⟨c0,c1,rfl,hx0,hx1⟩:=hx
     obtain⟨c0',c1',rfl,hy0,hy1⟩:=hy
     subst hx1 hy1
     rw[List.append_nil] at p2 q2 p1 q1
     simp only[Ty.ht] at hd
     have hr:=L2 hT d _ k1 hp p2 q2 hx0 hy0 (by omega)
     have Ud:=hnb f (by rw[←Array.mem_toList_iff,hfe];exact List.mem_singleton.2 rfl)
     simp only[Op.eqFields,Ud,ne_eq,not_false_eq_true,if_true,Sem.run_bind,k2,List.append_nil,p1,q1,Result.andThen_ok,hr]
     cases p<;>simp
    |[T1],[]=>rw[hfi,hfe] at OF;simp at OF
    |[T1],_::_::_=>rw[hfi,hfe] at OF;simp at OF
    |_::_::_,_=>rw[hfi] at OF;simp only[Array.length_toList,List.length_cons] at OF;omega
   ·have key : ∀ (l : List Field) (k : Nat) (s : Ty) (x' y' : s.I) (c c' : List Value) (r : Bool), k + l.length = fs.size → l ≠ [] → (∀ f ∈ l, f.name ≠ "_") → x5 Θ (.pair pa pb) fs.size l k = true → pN (List.replicate k .snd) (.pair pa pb) = some s →
      cs.drop (aE (List.replicate k .snd) (.pair pa pb))=c->fH.drop (aE (List.replicate k .snd) (.pair pa pb))=c'->aE (List.replicate k .snd) (.pair pa pb)+s.size<=(Ty.pair pa pb).size->K w (λ_=>False) s x' c->K w (λ_=>False) s y' c'->(s.ht<d∨(1<l.length/\s.ht<d+1))->UL s x' y'=some r->(Op.eqFields d cs.toArray fH.toArray l).run P w=.ok r w:=by
     intro l
     induction l with
     |nil=>intro k s x' y' c c' r _ h;exact absurd rfl h
     |cons f l ih=>
      intro k s x' y' c c' r hk _ Ud tM hs hc hc' pL hx hy hd he
      have hnf:=Ud f (List.mem_cons_self ..)
      simp only[x5,Bool.and_eq_true] at tM
      obtain⟨tM,Yu⟩:=tM
      rw[anD h2] at tM
      cases l with
      |nil=>
       rw[if_pos (by simpa using hk),hs] at tM
       simp only[Bool.and_eq_true] at tM
       obtain⟨⟨k1,k2⟩,k3⟩:=tM
       have k2:=Nat.eq_of_beq_eq_true k2
       obtain⟨u1,p1,p2⟩:=C' (w:=w) hT k1 (cs:=cs) (off:=f.offset) (by omega)
       obtain⟨v1,q1,q2⟩:=C' (w:=w) hT k1 (cs:=fH) (off:=f.offset) (by omega)
       have l1:=(xV _ hx).1
       have l2:=(xV _ hy).1
       rw[k2,hc,List.take_of_length_le (by omega)] at p2
       rw[k2,hc',List.take_of_length_le (by omega)] at q2
       have hr:=L2 hT d _ k1 he p2 q2 hx hy (by rcases hd with hd |hd;exact hd;simp at hd)
       simp only[Op.eqFields,hnf,ne_eq,not_false_eq_true,if_true,Sem.run_bind,p1,q1,Result.andThen_ok,hr]
       cases r<;>simp
      |cons f' l=>
       rw[if_neg (by simp only[List.length_cons] at hk;omega),Yt,hs,Option.bind_some] at tM
       cases s with
       |pair sa sb=>
        simp only[pN,Bool.and_eq_true] at tM
        obtain⟨⟨k1,k2⟩,k3⟩:=tM
        have k2:=Nat.eq_of_beq_eq_true k2
        rw[RE _ _ _ _ hs] at k2
        simp only[aE,Nat.add_zero] at k2
        simp only[UL] at he
        split at he
        case h_2=>cases he
        rename_i p q hp hq
        injection he with he
        subst he
        simp only[K] at hx hy
        obtain⟨c0,c1,hcc,hx0,hx1⟩:=hx
        obtain⟨c0',c1',ap7,hy0,hy1⟩:=hy
        have l0:=(xV _ hx0).1
        have l0':=(xV _ hy0).1
        simp only[Ty.size] at pL hlx hly
        obtain⟨u1,p1,p2⟩:=C' (w:=w) hT k1 (cs:=cs) (off:=f.offset) (by omega)
        obtain⟨v1,q1,q2⟩:=C' (w:=w) hT k1 (cs:=fH) (off:=f.offset) (by omega)
        rw[k2,hc,hcc,←l0,List.take_left] at p2
        rw[k2,hc',ap7,←l0',List.take_left] at q2
        have hdd:max sa.ht sb.ht+1<d+1:=by
         simp only[Ty.ht] at hd
         omega
        have hr:=L2 hT d _ k1 hp p2 q2 hx0 hy0 (by omega)
        have ap8:List.replicate (k+1) Step.snd=List.replicate k .snd++[.snd]:=List.replicate_succ'
        have anE:aE (List.replicate (k+1) .snd) (.pair pa pb)=aE (List.replicate k .snd) (.pair pa pb)+sa.size:=by
         rw[ap8,RE _ _ _ _ hs];simp[aE]
        have hi:=ih (k+1) sb x'.2 y'.2 c1 c1' q (by simp only[List.length_cons] at hk ⊢;omega) (by simp) (λf hf=>Ud f (List.mem_cons_of_mem _ hf)) Yu (by rw[ap8,Yt,hs];rfl)
         (by rw[anE,←List.drop_drop,hc,hcc,←l0,List.drop_left]) (by rw[anE,←List.drop_drop,hc',ap7,←l0',List.drop_left]) (by rw[anE];simp only[Ty.size];omega) hx1 hy1 (.inl (by omega)) hq
        simp only[Op.eqFields,hnf,ne_eq,not_false_eq_true,if_true,Sem.run_bind,p1,q1,Result.andThen_ok,hr]
        cases p with
        |false=>simp
        |true=>simpa[Op.eqFields] using hi
       |_=>simp[pN] at tM
    exact key fs.toList 0 _ x y cs fH r (by simp) (λe=>by rw[←Array.length_toList,e] at h2;simp at h2) (λf hf=>hnb f (by simpa using hf)) tM rfl rfl rfl (by simp[aE]) hx hy (.inr ⟨by rw[Array.length_toList];omega,hd⟩) he
theorem adv (hT:eA P Θ=true) {op:BinOp} {T:TypeId} {x y:Operand} {p q r:TV} {u v:Value} {cs fH:List Value} (hp:ah p.t u cs) (hq:ah q.t v fH) (kp:K w (λ_=>False) p.t p.x cs) (kq:K w (λ_=>False) q.t q.x fH) (hi:p.t=.bool∨isAgg p.t=true->Θ.is T p.t=true) (e:qJ op p q=some (true,r)): ∃ z,((do eqGuard op T x y u v;binOp op T u v):Sem Value).run P w=.ok z w/\Holds w A H tm S (λ_=>False) (.v r []) z:=by
 unfold qJ at e;split at e
 ·rename_i k _ x0 k' _ y0;split at e
  ·rename_i hk;obtain rfl:=e9 hp kp;obtain rfl:=e9 hq kq;obtain⟨z,h1,h2⟩:=agD (P:=P) (w:=w) (A:=A) (H:=H) (tm:=tm) (S:=S) T hk e;exact⟨z,by rw[eqGuard_at_int];simpa using h1,h2⟩
  cases e
 ·obtain rfl:=kY hp kp;obtain rfl:=kY hq kq;obtain⟨z,h1,h2⟩:=agE (P:=P) (w:=w) (A:=A) (H:=H) (tm:=tm) (S:=S) T e;exact⟨z,by rw[eqGuard_at_string];simpa using h1,h2⟩
 ·obtain rfl:=gz hp kp;obtain rfl:=gz hq kq;obtain⟨i,h1,h2⟩:=jW (hi (.inl rfl));obtain⟨_,hu,h3⟩:=fJ hT h1;have Il:=L0 hu h2;rw[h3] at Il;split at e
  ·injection e with e;injection e with _ e;subst e;refine⟨_,?_,eI _⟩;rw[eqGuard_at_bool];simp[binOp,Op.equal,Op.maxDepth,run_equalIn_bool' w 9999 T _ _ Il]
  ·injection e with e;injection e with _ e;subst e;refine⟨_,?_,eI _⟩;rw[eqGuard_at_bool];simp[binOp,Op.equal,Op.maxDepth,run_equalIn_bool' w 9999 T _ _ Il]
  cases e
 ·rename_i t t' _ x0 t2 _ y0;split at e
  ·rename_i ht;subst ht;have hTT:=hi (.inr rfl);obtain⟨i,h1,h2⟩:=jW hTT;obtain⟨gl,hu,h3⟩:=fJ hT h1;obtain⟨fs,hfs,_,_,hg,_,_⟩:=As hu h2;rw[h3] at hg;have eu:=Im rfl hp;have ev:=Im rfl hq;have pL:(Ty.pair t t').ht<10000:=Nat.lt_of_le_of_lt (show(Ty.pair t t').ht<=9000 from by
    have hs:=amB hT h1
    unfold uOK at hs
    rw[Bool.and_eq_true,h2] at hs
    exact Nat.le_of_ble_eq_true hs.1) (by decide)
   split at e
   ·rename_i r0 h0;injection e with e;injection e with _ e;subst e;have hr:=L2 (P:=P) hT 10000 (.pair t t') hTT h0 hp hq kp kq pL;rw[eu,ev] at hr ⊢;refine⟨_,?_,eI _⟩;simp only[Sem.run_bind,run_eqGuard_agg (P:=P) w _ T x y _ _ hg,Result.andThen_ok,run_eql_struct,hr]
   ·rename_i r0 h0;injection e with e;injection e with _ e;subst e;have hr:=L2 (P:=P) hT 10000 (.pair t t') hTT h0 hp hq kp kq pL;rw[eu,ev] at hr ⊢;refine⟨_,?_,eI _⟩;simp only[Sem.run_bind,run_eqGuard_agg (P:=P) w _ T x y _ _ hg,Result.andThen_ok,run_neq_struct,hr]
   cases e
  cases e
 cases e
theorem Wm {op:BinOp} {p q r:TV} {g:Bool} (e:qJ op p q=some (g,r)):scalar r.t=true:=by
 unfold qJ at e;split at e
 ·split at e
  ·unfold akk at e;split at e<;>first |(injection e with e;injection e with _ e;subst e;rfl) |cases e
  cases e
 ·unfold akl at e;split at e<;>first |(injection e with e;injection e with _ e;subst e;rfl) |cases e
 ·split at e<;>first |(injection e with e;injection e with _ e;subst e;rfl) |cases e
 ·split at e
  ·split at e<;>first |(injection e with e;injection e with _ e;subst e;rfl) |cases e
  cases e
 cases e
theorem Da:∀ (t:Ty) {x y:t.I} {r:Bool},UL t x y=some r->∀ {z:t.I} {cs:List Value},K w A t z cs->K w' A t z cs
 | .int _,_,_,_,_,_,_,h=>h
 | .bool,_,_,_,_,_,_,h=>h
 | .str,_,_,_,_,_,_,h=>h
 | .unit,_,_,_,_,_,_,h=>h
 | .pair a b,x,y,r,e,z,cs,h=>by
  simp only[UL] at e;split at e
  ·rename_i p q hp hq;obtain⟨c0,c1,h0,h1,h2⟩:=h;exact⟨c0,c1,h0,Da a hp h1,Da b hq h2⟩
  cases e
 | .sl _,_,_,_,e,_,_,_=>by simp[UL] at e
 | .ptr _,_,_,_,e,_,_,_=>by simp[UL] at e
 | .arr _ _,_,_,_,e,_,_,_=>by simp[UL] at e
 | .mp,_,_,_,e,_,_,_=>by simp[UL] at e
theorem abm {op:BinOp} {p q:TV} {gr:Bool×TV} (e:qJ op p q=some gr) {cs:List Value} (h:K w A p.t p.x cs):K w' A p.t p.x cs:=by
 obtain⟨t,m,x⟩:=p;obtain⟨t',m',y⟩:=q;cases t with
 |int k=>exact h
 |bool=>exact h
 |str=>exact h
 |unit=>exact h
 |pair a b=>
 simp only[qJ] at e;split at e;case isFalse=>cases e
 rename_i ht;subst ht;split at e
 ·rename_i hr;exact Da _ hr h
 ·rename_i hr;exact Da _ hr h
 cases e
 |_=>simp[qJ] at e
theorem Yv {op:BinOp} {p q:TV} {gr:Bool×TV} (e:qJ op p q=some gr) {cs:List Value} (h:K w A q.t q.x cs):K w' A q.t q.x cs:=by
 obtain⟨t,m,x⟩:=p;obtain⟨t',m',y⟩:=q;cases t with
 |pair a b=>
 simp only[qJ] at e;split at e;case isFalse=>cases e
 rename_i ht;subst ht;split at e
 ·rename_i hr;exact Da _ hr h
 ·rename_i hr;exact Da _ hr h
 cases e
 |int k=>cases t'<;>first |exact h |(simp[qJ] at e;done)
 |bool=>cases t'<;>first |exact h |(simp[qJ] at e;done)
 |str=>cases t'<;>first |exact h |(simp[qJ] at e;done)
 |_=>simp[qJ] at e
theorem agF (hT:eA P Θ=true) (h:a6 σ w0 W0 Z H S a w) {o:Oper} {op:BinOp} {T T':TypeId} {x y:Operand} (ho:o.op=.binOp op T x y T') (e:Q7 Θ S o.dst op T x y=some (true,S')):wa P w0 W0 Z H S' a o.dst w (execOp a.eval o):=by
 unfold Q7 at e;split at e
 ·rename_i p q hp hq;obtain⟨cs,h1,h2,_⟩:=kQ h hp;obtain⟨fH,h1',h2',_⟩:=kQ h hq;have fin:∀ (r:TV),(p.t=.bool∨isAgg p.t=true->Θ.is T p.t=true)->qJ op p q=some (true,r)->wa P w0 W0 Z H (S.put o.dst (.v r [])) a o.dst w (execOp a.eval o):=by intro r hi hb;obtain⟨z,h3,h4⟩:=adv (P:=P) (A:=Av σ Z) (H:=H) (tm:=cn a) (S:=S) (x:=x) (y:=y) hT h1 h1' h2 h2' hi hb;have hsc:scalar r.t=true:=Wm hb;refine dm h (v:=z) (λw2=>?_) h4;obtain⟨z2,k3,k4⟩:=adv (w:=w2) (P:=P) (A:=Av σ Z) (H:=H) (tm:=cn a) (S:=S) (x:=x) (y:=y) hT h1 h1' (abm hb h2) (Yv hb h2') hi hb;rw[RC hsc h4 k4];simp only[execOp,ho];simp only[Sem.run_bind] at k3 ⊢;rw[k3];rfl
  split at e
  ·rename_i ht;cases hc:Θ.is T .bool with
   |false=>rw[hc] at e;cases e
   |true=>
   rw[hc] at e;simp only[cond_true] at e;split at e
   ·rename_i g r hb;injection e with e;injection e with e1 e;subst e e1;exact fin r (λ_=>by rw[ht];exact hc) hb
   cases e
  ·rename_i t t' ht;cases hc:Θ.is T p.t with
   |false=>rw[hc] at e;cases e
   |true=>
   rw[hc] at e;simp only[cond_true] at e;split at e
   ·rename_i g r hb;injection e with e;injection e with e1 e;subst e e1;exact fin r (λ_=>hc) hb
   cases e
  rename_i n1 n2;split at e
  ·rename_i g r hb;injection e with e;injection e with e1 e;subst e e1;refine fin r (λhh=>?_) hb;rcases hh with hh |hh
   ·exact absurd hh n1
   obtain⟨pt,pm,px⟩:=p;simp only at hh n1 n2;cases pt<;>simp[isAgg] at hh
   ·exact absurd rfl (n2 _ _)
   ·simp[qJ] at hb
   simp[qJ] at hb
  cases e
 cases e
end Go.Pv
namespace Go.Pv
open List Int IntKind
variable {P:Program} {w w':World} {A A':Nat->Prop} {H:Nat->Value} {tm FP:Nat->Value} {S S':St} {σ:Nat->Option Nat} {w0:World} {W0 Z:Nat->Prop} {a:Act} {own:Nat->Prop} {v:Value} {Θ:fA} {dst:Option Nat} {g:Bool}
theorem G8 {n:Int} {len:Nat} (h:aD n len=true):0<=n/\n<(len:Int):=by simpa[aD] using h
theorem agG (hT:eA P Θ=true) (h:a6 σ w0 W0 Z H S a w) {o:Oper} {T:TypeId} {x ix:Operand} (ho:o.op=.index T x ix) (e:V8 Θ S o.dst T x ix=some (true,S')):rq P w0 W0 Z H S' a o.dst w (execOp a.eval o):=by
 unfold V8 at e;split at e
 ·rename_i m s n hb hn;cases hc:Θ.is T .str with
  |false=>rw[hc] at e;cases e
  |true=>rw[hc] at e;simp only[cond_true,Option.some.injEq,Prod.mk.injEq] at e;obtain⟨e1,e⟩:=e;subst e;obtain⟨b1,b2⟩:=G8 e1;obtain⟨cs,h1,h2,_⟩:=kQ h hb;have hv:=kY h1 h2;obtain⟨k,hk⟩:=sy h hn;obtain⟨i,hi,lU⟩:=jW hc;obtain⟨_,hu,Kt⟩:=fJ hT hi;have Il:=EO hu lU;rw[Kt] at Il;refine dX h (v:=.int .u8 (bt s n)) (λw2 _=>?_) (gY _ _);have du:n.toNat<s.size:=(by omega);have mm:s[n.toNat]?=some s[n.toNat]:=ByteArray.getElem?_lt' s _ du;have LN:bt s n=(s[n.toNat].toNat:Int):=(by unfold bt;rw[dif_pos du]);simp[execOp,ho,hv,hk,Instr.index,asIntOf,run_underlying Il,b1,mm,LN]
 cases e
theorem kG {s:Nat} {p:Path} {b:TV} (h:S.dW s p=some b):∃ r ex,S.at s=.v r ex/\(∀ q∈ex,under q p=false)/\a7 p r.t r.m r.x=some b:=by
 unfold St.dW at h;split at h
 ·rename_i r ex he;cases hc:ex.all λq=>!under q p with
  |true=>rw[hc] at h;exact⟨r,ex,he,λq hq=>by simpa using List.all_eq_true.1 hc q hq,h⟩
  |false=>rw[hc] at h;cases h
 cases h
theorem Aj:∀ (q:Path) (s:Step) (r:Path),under q (q++s::r)=true
 |[],_,_=>by simp[under]
 | .idx i::q,s,r=>by simp[under];exact Aj q s r
 | .deref::q,s,r=>by simp[under];exact Aj q s r
 | .fst::q,s,r=>by simp[under];exact Aj q s r
 | .snd::q,s,r=>by simp[under];exact Aj q s r
theorem ki {p:Path} {ex:List Path} (h:∀ q∈ex,under q p=false):open_ p ex:=λq hq s r e=>by have:=h q hq;rw[e,Aj] at this;cases this
theorem ES {s:Nat} {p:Path} {b:TV} (h:S.place s p=some b):∃ r ex,S.at s=.v r ex/\(∀ q∈ex,jk q p=false)/\a7 p r.t r.m r.x=some b:=by
 unfold St.place at h;split at h
 ·rename_i r ex he;cases hc:ex.all λq=>!jk q p with
  |true=>rw[hc] at h;exact⟨r,ex,he,λq hq=>by simpa using List.all_eq_true.1 hc q hq,h⟩
  |false=>rw[hc] at h;cases h
 cases h
theorem agH (hT:eA P Θ=true) (h:a6 σ w0 W0 Z H S a w) {o:Oper} {as:Array Operand} {ts:Array TypeId} (ho:o.op=.call { callee:=.builtin .len,args:=as,argTypes:=ts }) (e:agd Θ S o.dst ts.toList as.toList=some (true,S')):wa P w0 W0 Z H S' a o.dst w (execOp a.eval o):=by
 obtain⟨as⟩:=as;obtain⟨ts⟩:=ts;simp only at e;unfold agd at e;split at e
 ·rename_i x T;split at e
  ·rename_i b hb;cases hc:Θ.is T b.t with
   |false=>rw[hc] at e;cases e
   |true=>
   rw[hc] at e;simp only[cond_true] at e;split at e
   ·rename_i n hn;injection e with e;injection e with _ e;subst e;have tS:(∃ xs:ByteArray,b.t=.str/\a.eval x=.string xs/\n=(xs.size:Int))∨∃ t X c,∃ m:Nat,b.t=.sl t/\a.eval x=.slice X m c/\n=(m:Int):=by
     obtain⟨bt,bm,bx⟩:=b;unfold amu at hn;split at hn
     ·rename_i t m xs heq;cases heq;injection hn with hn;right;split at hb
      ·rename_i b' ex jU;cases hx:ex.any List.isEmpty with
       |true=>rw[hx] at hb;cases hb
       |false=>
       rw[hx] at hb;simp only[cond_false,Option.some.injEq] at hb;subst hb;obtain⟨cs,h1,h2⟩:=bM h jU;simp only[M] at h2;rcases h2 with⟨wU,_⟩ |⟨_,h2⟩ |⟨T',tag,me,X,c,_,rfl,_⟩
       ·have:ex.any List.isEmpty=true:=List.any_eq_true.2 ⟨[],wU,rfl⟩;rw[hx] at this;cases this
       ·obtain⟨X,c,hv,_⟩:=Au h1 h2;exact⟨_,X,c,_,rfl,hv,hn.symm⟩
       exact⟨_,X,c,_,rfl,by simpa[ah,isAgg] using h1.symm,hn.symm⟩
      ·rename_i t0 s0 p0 jU;split at hb
       ·rename_i b' hpl;injection hb with hb;subst hb;obtain⟨cs,h1,h2,_⟩:=G7 (av:=.al t0 s0 p0) h (bM h jU) (by simpa[St.Ii] using hpl);obtain⟨X,c,hv,_⟩:=Au h1 h2;exact⟨_,X,c,_,rfl,hv,hn.symm⟩
       split at hb
       ·rename_i t1 m1 xs1 PJ;injection hb with hb;cases hb;obtain⟨r,dw,cs,hr,rX,hm⟩:=bM h jU;obtain⟨ex,b2,fH,ow0,j1,j2,j3,j4,hM,j5,j6,j7⟩:=oM h hr;rw[rX] at j5;injection j5 with j5;subst j5;obtain⟨r2,ex2,q1,q2,q3⟩:=kG PJ;rw[j1] at q1;injection q1 with q1 RF;subst q1 RF;rw[j3] at q3;injection q3 with q3;subst q3;simp only at j4;subst j4;simp only[M] at j7;rcases j7 with⟨_,_,X,c,rfl⟩ |⟨_,h2⟩ |⟨T',tag,me,X,c,_,rfl,_⟩
        ·exact⟨_,X,c,_,rfl,by simpa[ah,isAgg] using hm.symm,hn.symm⟩
        ·obtain⟨X,c,hv,_⟩:=Au hm h2;exact⟨_,X,c,_,rfl,hv,hn.symm⟩
        exact⟨_,X,c,_,rfl,by simpa[ah,isAgg] using hm.symm,hn.symm⟩
       cases hb
      ·rename_i a' _ _ jU;obtain⟨cs,h1,h2,_⟩:=G7 h (bM h jU) hb;obtain⟨X,c,hv,_⟩:=Au h1 h2;exact⟨_,X,c,_,rfl,hv,hn.symm⟩
      cases hb
     ·rename_i m xs heq;cases heq;injection hn with hn;left;split at hb
      ·rename_i b' ex jU;cases hx:ex.any List.isEmpty with
       |true=>rw[hx] at hb;cases hb
       |false=>rw[hx] at hb;simp only[cond_false,Option.some.injEq] at hb;subst hb;obtain⟨cs,h1,h2⟩:=bM h jU;simp only[M] at h2;exact⟨_,rfl,kY h1 h2.2,hn.symm⟩
      ·rename_i t0 s0 p0 jU;split at hb
       ·rename_i b' hpl;injection hb with hb;subst hb;obtain⟨cs,h1,h2,_⟩:=G7 (av:=.al t0 s0 p0) h (bM h jU) (by simpa[St.Ii] using hpl);exact⟨_,rfl,kY h1 h2,hn.symm⟩
       split at hb
       ·injection hb with hb;cases hb
       cases hb
      ·rename_i a' _ _ jU;obtain⟨cs,h1,h2,_⟩:=G7 h (bM h jU) hb;exact⟨_,rfl,kY h1 h2,hn.symm⟩
      cases hb
     cases hn
    obtain⟨i,hi,lU⟩:=jW hc;obtain⟨_,hu,Kt⟩:=fJ hT hi;rcases tS with⟨xs,ht,hv,rfl⟩ |⟨t,X,c,m,ht,hv,rfl⟩
    ·have Il:=EO hu (lU.trans ht);rw[Kt] at Il;refine dm h (v:=.int .i64 xs.size) (λw2=>?_) (gY _ _);simp[execOp,ho,hv,resolve,invoke,builtin,Builtin.len_,run_underlying Il,goInt]
    have Il:=(yG hu (lU.trans ht)).1;rw[Kt] at Il;refine dm h (v:=.int .i64 m) (λw2=>?_) (gY _ _);simp[execOp,ho,hv,resolve,invoke,builtin,Builtin.len_,run_underlying Il,goInt]
   cases e
  cases e
 cases e
theorem akC (h:a6 σ w0 W0 Z H S a w) {o:Oper} {c x y:Operand} (ho:o.op=.pick c x y) (e:aaX Θ S o.dst o.type c x y=some (true,S')):rq P w0 W0 Z H S' a o.dst w (execOp a.eval o):=by
 unfold aaX at e;split at e
 ·rename_i m q hq;obtain⟨cs,h1,h2,_⟩:=kQ h hq;have hv:=gz h1 h2;have dp:∀ w2,Ext w w2->(execOp a.eval o).run P w2=.ok (.value (if q=true then a.eval x else a.eval y)) w2:=λw2 _=>by simp only[execOp,ho,hv,asBool];rfl
  split at e
  ·rename_i m1 x1 e1 m2 y1 e2 hx hy;injection e with e;injection e with _ e;subst e;refine dX h dp ?_;obtain⟨c1,k1,k2⟩:=bM h hx;obtain⟨c2,k3,k4⟩:=bM h hy;simp only[M] at k2 k4;have:=gz k1 k2.2;have:=gz k3 k4.2;cases q<;>simp_all<;>exact eI _
  ·rename_i p r wU hx hy;cases q with
   |true=>
   simp only[cond_true] at e;split at e
   ·rename_i av jU;injection e with e;injection e with _ e;subst e;exact dX h (λw2 hw=>by simpa using dp w2 hw) (ER h hx jU)
   cases e
   |false=>
   simp only[cond_false] at e;split at e
   ·rename_i av jU;injection e with e;injection e with _ e;subst e;exact dX h (λw2 hw=>by simpa using dp w2 hw) (ER h hy jU)
   cases e
  cases e
 cases e
end Go.Pv
namespace Go.Pv
open List Int IntKind
variable {P:Program} {w w':World} {A A':Nat->Prop} {H:Nat->Value} {tm FP:Nat->Value} {S S':St} {σ:Nat->Option Nat} {w0:World} {W0 Z:Nat->Prop} {a:Act} {own:Nat->Prop} {v:Value} {Θ:fA} {dst:Option Nat}
theorem nk:∀ (p q:Path) (t:Ty) (m:Md) (x:t.I),a7 (p++q) t m x=(a7 p t m x).bind λb=>a7 q b.t b.m b.x
 |[],q,t,m,x=>rfl
 | .deref::p,q,t,m,x=>by cases t<;>simp only[List.cons_append,a7,Option.bind_none]<;>exact nk p q _ _ _
 | .fst::p,q,t,m,x=>by cases t<;>simp only[List.cons_append,a7,Option.bind_none]<;>exact nk p q _ _ _
 | .snd::p,q,t,m,x=>by cases t<;>simp only[List.cons_append,a7,Option.bind_none]<;>exact nk p q _ _ _
 | .idx i::p,q,t,m,x=>by cases t<;>simp only[List.cons_append,a7,Option.bind_none]<;>exact nk p q _ _ _
theorem nA:∀ (p q:Path) {t:Ty} {m:Md} {x:t.I} {b:TV},a7 p t m x=some b->valid p t x->valid q b.t b.x->valid (p++q) t x
 |[],q,t,m,x,b,hg,_,h=>by simp only[a7,Option.some.injEq] at hg;subst hg;exact h
 | .deref::p,q,.ptr t,m,x,b,hg,h1,h2=>by simp only[a7] at hg;simp only[valid] at h1;simp only[List.cons_append,valid];exact nA p q hg h1 h2
 | .fst::p,q,.pair _ _,m,x,b,hg,h1,h2=>by simp only[a7] at hg;simp only[valid] at h1;simp only[List.cons_append,valid];exact nA p q hg h1 h2
 | .snd::p,q,.pair _ _,m,x,b,hg,h1,h2=>by simp only[a7] at hg;simp only[valid] at h1;simp only[List.cons_append,valid];exact nA p q hg h1 h2
 | .idx i::p,q,.sl t,m,x,b,hg,h1,h2=>by simp only[a7] at hg;simp only[valid] at h1;simp only[List.cons_append,valid];exact⟨h1.1,nA p q hg h1.2 h2⟩
theorem PK (cs:List Value):(∃ g off,cs=[.pointer (some ⟨g,off,none⟩)])∨((∀ (w:World) (p:Path) (t:Ty),aH w (.deref::p) (.ptr t) cs=none)/\∀ (w:World) (p:Path) (t:Ty) (l:Option (Nat×Nat)),addrAt w (.deref::p) (.ptr t) cs l=none):=by
 rcases cs with _ |⟨v,_ |⟨_,_⟩⟩
 ·exact .inr ⟨λ_ _ _=>rfl,λ_ _ _ _=>rfl⟩
 ·cases v<;>try exact .inr ⟨λ_ _ _=>rfl,λ_ _ _ _=>rfl⟩
  rename_i x;rcases x with _ |⟨g,off,_ |_⟩
  ·exact .inr ⟨λ_ _ _=>rfl,λ_ _ _ _=>rfl⟩
  ·exact .inl ⟨g,off,rfl⟩
  exact .inr ⟨λ_ _ _=>rfl,λ_ _ _ _=>rfl⟩
 cases v<;>try exact .inr ⟨λ_ _ _=>rfl,λ_ _ _ _=>rfl⟩
 rename_i x;rcases x with _ |⟨g,off,_ |_⟩<;>exact .inr ⟨λ_ _ _=>rfl,λ_ _ _ _=>rfl⟩
theorem Va (cs:List Value):(∃ g off n c,cs=[.slice (some ⟨g,off,none⟩) n c])∨((∀ (w:World) (i:Nat) (p:Path) (t:Ty),aH w (.idx i::p) (.sl t) cs=none)/\∀ (w:World) (i:Nat) (p:Path) (t:Ty) (l:Option (Nat×Nat)),addrAt w (.idx i::p) (.sl t) cs l=none):=by
 rcases cs with _ |⟨v,_ |⟨_,_⟩⟩
 ·exact .inr ⟨λ_ _ _ _=>rfl,λ_ _ _ _ _=>rfl⟩
 ·cases v<;>try exact .inr ⟨λ_ _ _ _=>rfl,λ_ _ _ _ _=>rfl⟩
  rename_i x n c;rcases x with _ |⟨g,off,_ |_⟩
  ·exact .inr ⟨λ_ _ _ _=>rfl,λ_ _ _ _ _=>rfl⟩
  ·exact .inl ⟨g,off,n,c,rfl⟩
  exact .inr ⟨λ_ _ _ _=>rfl,λ_ _ _ _ _=>rfl⟩
 cases v<;>try exact .inr ⟨λ_ _ _ _=>rfl,λ_ _ _ _ _=>rfl⟩
 rename_i x n c;rcases x with _ |⟨g,off,_ |_⟩<;>exact .inr ⟨λ_ _ _ _=>rfl,λ_ _ _ _ _=>rfl⟩
theorem nB:∀ (p q:Path) {t:Ty} {m:Md} {x:t.I} {b:TV} (cs:List Value) (l:Option (Nat×Nat)),a7 p t m x=some b-> aH w (p++q) t cs=(aH w p t cs).bind (aH w q b.t)/\addrAt w (p++q) t cs l=(aH w p t cs).bind λc=>addrAt w q b.t c (addrAt w p t cs l)
 |[],q,t,m,x,b,cs,l,hg=>by simp only[a7,Option.some.injEq] at hg;subst hg;exact⟨rfl,rfl⟩
 | .fst::p,q,.pair a' b',m,x,b,cs,l,hg=>by simp only[a7] at hg;simp only[List.cons_append,aH,addrAt];exact nB p q _ _ hg
 | .snd::p,q,.pair a' b',m,x,b,cs,l,hg=>by simp only[a7] at hg;simp only[List.cons_append,aH,addrAt];exact nB p q _ _ hg
 | .deref::p,q,.ptr t,m,x,b,cs,l,hg=>by
  simp only[a7] at hg;have ih:=λc l'=>nB p q c l' hg;rw[List.cons_append];rcases PK cs with⟨g,off,rfl⟩ |⟨h1,h2⟩
  ·simp only[aH,addrAt];cases hr:rowAt w g off t.size with
   |none=>simp
   |some c=>simp only[Option.bind_some];exact ih c _
  simp only[h1,h2,Option.bind_none,and_self]
 | .idx i::p,q,.sl t,m,x,b,cs,l,hg=>by
  simp only[a7] at hg;have ih:=λc l'=>nB p q c l' hg;rw[List.cons_append];rcases Va cs with⟨g,off,n,c,rfl⟩ |⟨h1,h2⟩
  ·simp only[aH,addrAt];cases hr:rowAt w g (off+i*t.size) t.size with
   |none=>simp
   |some c=>simp only[Option.bind_some];exact ih c _
  simp only[h1,h2,Option.bind_none,and_self]
theorem Db {g off n:Nat} {cs:List Value} (h:rowAt w g off n=some cs):cs.length=n/\∃ cur T fr,w.heap[g]?=some (.cells cur T fr)/\off+n<=cur.size/\cs=(cur.toList.drop off).take n:=by
 unfold rowAt at h;split at h
 ·rename_i cur T fr hw;split at h
  ·rename_i hl;injection h with h;subst h;refine⟨by simp;omega,cur,T,fr,hw,hl,rfl⟩
  cases h
 cases h
theorem RG {g off n a b:Nat} {cs:List Value} (h:rowAt w g off n=some cs) (G6:a+b<=n):rowAt w g (off+a) b=some ((cs.drop a).take b):=by obtain⟨_,cur,T,fr,hw,hl,rfl⟩:=Db h;rw[bH hw (by omega),List.drop_take,List.take_take,List.drop_drop,Nat.min_eq_left (by omega)]
theorem G9:∀ (p:Path) {t:Ty} {m:Md} {x:t.I} {b:TV} {cs fH:List Value} {l:Option (Nat×Nat)} {g off:Nat},a7 p t m x=some b->cs.length=t.size->(∀ g o,l=some (g,o)->rowAt w g o t.size=some cs)-> aH w p t cs=some fH->addrAt w p t cs l=some (g,off)->rowAt w g off b.t.size=some fH
 |[],t,m,x,b,cs,fH,l,g,off,hg,hl,hr,hc,ha=>by simp only[a7,Option.some.injEq] at hg;subst hg;simp only[aH,Option.some.injEq] at hc;subst hc;exact hr g off ha
 | .fst::p,.pair a' b',m,x,b,cs,fH,l,g,off,hg,hl,hr,hc,ha=>by simp only[a7] at hg;simp only[aH] at hc;simp only[addrAt] at ha;simp only[Ty.size] at hl hr;refine G9 p hg (by rw[List.length_take];omega) (λg o e=>?_) hc ha;have:=RG (a:=0) (b:=a'.size) (hr g o e) (by omega);rw[Nat.add_zero,List.drop_zero] at this;exact this
 | .snd::p,.pair a' b',m,x,b,cs,fH,l,g,off,hg,hl,hr,hc,ha=>by
  simp only[a7] at hg;simp only[aH] at hc;simp only[addrAt] at ha;simp only[Ty.size] at hl hr;refine G9 p hg (by rw[List.length_drop];omega) (λg o e=>?_) hc ha;cases l with
  |none=>simp at e
  |some q=>simp only[Option.map_some,Option.some.injEq,Prod.mk.injEq] at e;obtain⟨rfl,rfl⟩:=e;have:=RG (a:=a'.size) (b:=b'.size) (hr q.1 q.2 rfl) (by omega);rw[List.take_of_length_le (by rw[List.length_drop];omega)] at this;exact this
 | .deref::p,.ptr t,m,x,b,cs,fH,l,g,off,hg,hl,hr,hc,ha=>by
  simp only[a7] at hg;rcases PK cs with⟨g1,anF,rfl⟩ |⟨h1,h2⟩
  ·simp only[aH] at hc;simp only[addrAt] at ha;cases nw:rowAt w g1 anF t.size with
   |none=>rw[nw] at hc;simp at hc
   |some c=>rw[nw] at hc ha;simp only[Option.bind_some] at hc ha;exact G9 p hg (Db nw).1 (λg o e=>by injection e with e;injection e with e1 e2;subst e1 e2;exact nw) hc ha
  rw[h1] at hc;cases hc
 | .idx i::p,.sl t,m,x,b,cs,fH,l,g,off,hg,hl,hr,hc,ha=>by
  simp only[a7] at hg;rcases Va cs with⟨g1,anF,n,c1,rfl⟩ |⟨h1,h2⟩
  ·simp only[aH] at hc;simp only[addrAt] at ha;cases nw:rowAt w g1 (anF+i*t.size) t.size with
   |none=>rw[nw] at hc;simp at hc
   |some c=>rw[nw] at hc ha;simp only[Option.bind_some] at hc ha;exact G9 p hg (Db nw).1 (λg o e=>by injection e with e;injection e with e1 e2;subst e1 e2;exact nw) hc ha
  rw[h1] at hc;cases hc
theorem RH (hT:eA P Θ=true) {T:TypeId} {t:Ty} {g off:Nat} {cs:List Value} (ht:Θ.is T t=true) (h:rowAt w g off t.size=some cs): ∃ v,(∀ w2,Ext w w2->(Instr.loadAt T (.pointer (some ⟨g,off,none⟩))).run P w2=.ok v w2)/\ah t v cs:=by
 suffices hs:∀ w2,Ext w w2->∃ v,(Instr.loadAt T (.pointer (some ⟨g,off,none⟩))).run P w2=.ok v w2/\ah t v cs by
  obtain⟨v,_,h2⟩:=hs w (Ext.refl w);refine⟨v,λw2 hw=>?_,h2⟩;obtain⟨v',k1,k2⟩:=hs w2 hw;rw[k1];unfold ah at h2 k2;split at h2
  ·rename_i ha;rw[if_pos ha] at k2;rw[h2,k2]
  rename_i ha;rw[if_neg ha] at k2;rw[h2] at k2;injection k2 with k2;rw[k2]
 intro w2 BF;have h:rowAt w2 g off t.size=some cs:=by obtain⟨_,cur,T',fr,hw,_,_⟩:=Db h;unfold rowAt at h ⊢;rw[BF g (bh hw)];exact h
 clear BF;revert h;generalize w2=w;intro h;obtain⟨hl,cur,T',fr,hw,hs,rfl⟩:=Db h;obtain⟨inf,hi,pL,_⟩:=qt hT ht;have JG:∀ j v,((cur.toList.drop off).take t.size)[j]?=some v->w.cell? ((⟨g,off,none⟩:Addr).add j)=some v:=by
  intro j v hj;rw[tV];unfold World.cell?;simp only[hw,Option.isSome_none,Bool.false_eq_true,if_false];rw[List.getElem?_take] at hj;split at hj
  ·rw[List.getElem?_drop] at hj;simpa using hj
  cases hj
 have asR:=abk hT ht w;simp only[Instr.loadAt,Instr.sureAddr,loadVar,Sem.run_bind,Sem.run_pure,Result.andThen_ok,asR];cases hb:isAgg t with
 |true=>refine⟨.agg ((cur.toList.drop off).take t.size).toArray,?_,by simp[ah,hb]⟩;have hlc:=run_loadCells_list (P:=P) (w:=w) ⟨g,off,none⟩ _ JG;rw[hl] at hlc;simp only[if_true,Sem.run_bind,sizeOf,typeInfo,run_program,Result.andThen_ok,hi,Sem.run_pure,pL,hlc]
 |false=>
 have h1:t.size=1:=by cases t<;>simp[isAgg] at hb<;>rfl
 rw[h1] at hl JG ⊢;obtain⟨u,hu⟩:∃ u,(cur.toList.drop off).take 1=[u]:=by
  cases hx:(cur.toList.drop off).take 1 with
  |nil=>rw[hx] at hl;simp at hl
  |cons u r=>
  rw[hx] at hl;cases r with
  |nil=>exact⟨u,rfl⟩
  |cons _ _=>simp at hl
 refine⟨u,?_,by simp[ah,hb,hu]⟩;have:=JG 0 u (by rw[hu];rfl);rw[Addr.add_zero'] at this;simp[load,Sem.run,this]
end Go.Pv
namespace Go.Pv
open List Int IntKind
variable {P:Program} {w w':World} {A A':Nat->Prop} {H:Nat->Value} {tm FP:Nat->Value} {S S':St} {σ:Nat->Option Nat} {w0:World} {W0 Z:Nat->Prop} {a:Act} {own:Nat->Prop} {v:Value} {Θ:fA} {dst:Option Nat}
def adw (w:World) (A:Nat->Prop) (tm:Nat->Value) (S:St):Tgt->Value->Prop
 | .k b,v=>∃ cs,ah (.ptr b.t) v cs/\K w A (.ptr b.t) b.x cs
 | .pl t s p,v=>∃ r ex,S.at s=.v r ex/\(open_ p ex->∃ dw g off,Ref tm S t s p r dw/\addrAt w p r.t dw none=some (g,off)/\v=.pointer (some ⟨g,off,none⟩))
theorem agI (h:a6 σ w0 W0 Z H S a w) {i:Nat} {t:Ty} {T:TypeId} {tag:Option Nat} {me:Md} {y:t.I} {ex:List Path} (hi:S.at i=.v ⟨.ptr t,.o T tag me,y⟩ ex): adw w (Av σ Z) (cn a) S (.pl t i [.deref]) (cn a i):=by
 refine⟨_,ex,hi,λho=>?_⟩;have hh:=h.holds i;rw[hi] at hh;obtain⟨cs,h1,h2⟩:=hh;simp only[M] at h2;rcases h2 with⟨hn,_⟩ |⟨hk,_⟩ |⟨T',agJ,me',g,cur,e,rfl,ht,hg,hw,hM⟩
 ·exact absurd hn ho.not_nil
 ·simp[Md.b5] at hk
 have hlen:=(lQ t hM).1;refine⟨_,g,0,⟨⟨ex,hi,ho⟩,trivial,⟨_,rfl,rfl⟩,h1⟩,?_,by simpa[ah,isAgg] using h1.symm⟩;have hs:0+t.size<=cur.size:=by rw[←hlen];simp
 simp only[addrAt,bH hw hs,Option.bind_some]
theorem afb {p q:Path} {ex:List Path} (h:open_ (p++q) ex):open_ p ex:=λr hr s u e=>h r hr s (u++q) (by rw[e];simp)
theorem L4 {p:Path} {s:Step} {q:Path} {ex:List Path} (h:open_ (p++s::q) ex):[]∉LM p ex:=λhm=>by have:=Q'.1 hm;rw[List.append_nil] at this;exact h p this s q rfl
theorem G' (h:a6 σ w0 W0 Z H S a w) {T:TypeId} {x:Operand} {av:AV} {g:Tgt} (ho:S.jT Θ T x=some av) (e:S.JB x av=some g):adw w (Av σ Z) (cn a) S g (a.eval x):=by
 have hh:=bM h ho;have Dc:∀ {t:Ty} {T:TypeId} {tag:Option Nat} {me:Md} {y:t.I} {ex:List Path} {i:Nat},av=.v ⟨.ptr t,.o T tag me,y⟩ ex->x=.tmp i->adw w (Av σ Z) (cn a) S (.pl t i [.deref]) (a.eval x):=by intro t T tag me y ex i e1 e2;subst e2;simp only[St.jT,Option.some.injEq] at ho;rw[e1] at ho;exact agI h ho
 unfold St.JB at e;split at e
 ·rename_i t m y;split at e
  ·injection e with e;subst e;obtain⟨cs,h1,h2⟩:=hh;exact⟨cs,h1,nj _ rfl h2⟩
  ·injection e with e;subst e;exact Dc rfl rfl
  cases e
 ·split at e
  ·injection e with e;subst e;exact Dc rfl rfl
  cases e
 ·rename_i t s p;obtain⟨r,dw,cs,hr,hc,hm⟩:=hh;split at e
  ·rename_i t' y PJ;injection e with e;subst e;obtain⟨ex,b,fH,fp,k1,k2,k3,k4,hM,k5,k6,k7⟩:=oM h hr;obtain⟨r',Qi,q1,q2,q3⟩:=kG PJ;rw[k1] at q1;injection q1 with q1 RF;subst q1 RF;rw[k3] at q3;injection q3 with q3;subst q3;rw[k5] at hc;injection hc with hc;subst hc;simp only at k4;rw[←k4] at hm;exact⟨_,hm,nj _ rfl k7⟩
  ·rename_i t' T' agJ me' y PJ;injection e with e;subst e;obtain⟨ex,b,fH,fp,k1,k2,k3,k4,hM,k5,k6,k7⟩:=oM h hr;obtain⟨r',Qi,q1,q2,q3⟩:=kG PJ;rw[k1] at q1;injection q1 with q1 RF;subst q1 RF;rw[k3] at q3;injection q3 with q3;subst q3;rw[k5] at hc;injection hc with hc;subst hc;simp only at k4;injection k4 with k4;subst k4;refine⟨r,ex,k1,λcw=>?_⟩;simp only[M] at k7;rcases k7 with⟨hn,_⟩ |⟨hk,_⟩ |⟨T',agJ,me',g,cur,e,rfl,ht,hg,hw,hM'⟩
   ·exact absurd hn (L4 cw)
   ·simp[Md.b5] at hk
   have hlen:=(lQ _ hM').1;have hs:0+Ty.size t'<=cur.size:=(by rw[←hlen];simp);refine⟨dw,g,0,⟨⟨ex,k1,cw⟩,nA p [.deref] k3 hr.val trivial,⟨_,by rw[nk,k3];rfl,rfl⟩,hr.mat⟩,?_,by simpa[ah,isAgg] using hm.symm⟩;rw[(nB p [.deref] dw none k3).2,k5];simp only[Option.bind_some,addrAt,bH hw hs]
  cases e
 ·rename_i t s p;injection e with e;subst e;obtain⟨r,dw,g,off,hr,hc,hm⟩:=hh;obtain⟨ex,k1,k2⟩:=hr.at_;exact⟨r,ex,k1,λ_=>⟨dw,g,off,hr,hc,hm⟩⟩
 cases e
theorem Yw (h:a6 σ w0 W0 Z H S a w) {o:Oper} {x:Operand} (ho:o.op=.nilCheck x) (e:Kj Θ S o.dst x=some (true,S')):rq P w0 W0 Z H S' a o.dst w (execOp a.eval o):=by
 unfold Kj at e;split at e
 ·rename_i av jU;split at e
  ·rename_i g hg;split at e
   ·rename_i r _ hr PJ;injection e with e;injection e with _ e;subst e;have hc:=ER h jU hr;have hl:=G' h jU hg;have hp:(∃ ad,a.eval x=.pointer (some ad)):=by
     cases g with
     |k b=>obtain⟨cs,h1,h2⟩:=hl;simp only[K] at h2;obtain⟨g,off,cur,T,fr,rfl,_⟩:=h2;exact⟨_,by simpa[ah,isAgg] using h1.symm⟩
     |pl t s p=>
     obtain⟨r',ex,k1,k2⟩:=hl;simp only at PJ;split at PJ
     ·rename_i b hb;obtain⟨r2,ex2,q1,q2,q3⟩:=kG hb;rw[k1] at q1;injection q1 with q1 RF;subst q1 RF;obtain⟨dw,g,off,_,_,e3⟩:=k2 (ki q2);exact⟨_,e3⟩
     cases PJ
    obtain⟨ad,hp⟩:=hp;exact dX h (v:=a.eval x) (λw2 _=>by simp only[execOp,ho,hp];rfl) hc
   cases e
  cases e
 cases e
theorem Yx (hT:eA P Θ=true) (h:a6 σ w0 W0 Z H S a w) {T:TypeId} {g:Tgt} {r:AV} {v:Value} (hl:adw w (Av σ Z) (cn a) S g v) (e:S.loadAt g=some r) (ht:Θ.is T g.ty=true): ∃ u,(∀ w2,Ext w w2->(Instr.loadAt T v).run P w2=.ok u w2)/\Holds w (Av σ Z) H (cn a) S (λ_=>False) r u:=by
 cases g with
 |k b=>
 simp only[St.loadAt,Option.some.injEq] at e;subst e;obtain⟨cs,h1,h2⟩:=hl;simp only[K] at h2;obtain⟨g,off,cur,T',fr,rfl,hg,hw,hs,hk⟩:=h2;obtain rfl:v=.pointer (some ⟨g,off,none⟩):=by simpa[ah,isAgg] using h1.symm
 obtain⟨u,k1,k2⟩:=RH hT ht (bH hw hs);exact⟨u,k1,_,k2,nu _ hk⟩
 |pl t s p=>
 simp only[St.loadAt] at e;obtain⟨r',ex,k1,k2⟩:=hl;split at e
 ·rename_i b hb;obtain⟨r2,ex2,q1,q2,q3⟩:=kG hb;rw[k1] at q1;injection q1 with q1 RF;subst q1 RF;obtain⟨dw,g,off,hr,ha,rfl⟩:=k2 (ki q2);obtain⟨Qi,b',fH,fp,j1,j2,j3,j4,hM,j5,j6,j7⟩:=oM h hr;rw[k1] at j1;injection j1 with j1 j1';subst j1';rw[q3] at j3;injection j3 with j3;subst j3;subst j4;have nw:=G9 p q3 (lQ _ hM).1 (λg o e=>by cases e) j5 ha;obtain⟨u,l1,l2⟩:=RH hT ht nw;refine⟨u,l1,?_⟩;cases hk:b.m.b5 with
  |true=>
  rw[hk] at e;simp only[cond_true] at e;split at e
  ·rename_i c hc;injection e with e;subst e;obtain⟨_,Dd,_,hM2⟩:=gy h hr j5 hc;have hcb:c=b:=by obtain⟨r3,ex3,p1,p2,p3⟩:=ES hc;rw[k1] at p1;injection p1 with p1 p1';subst p1;rw[q3] at p3;injection p3 with p3;exact p3.symm
   subst hcb;exact⟨_,l2,nu _ (nj _ hk hM2)⟩
  cases e
  |false=>rw[hk] at e;simp only[cond_false,Option.some.injEq] at e;subst e;exact⟨r',dw,fH,hr,j5,l2⟩
 cases e
theorem akD (hT:eA P Θ=true) (h:a6 σ w0 W0 Z H S a w) {o:Oper} {T:TypeId} {x:Operand} (ho:o.op=.load T x) (e:nt Θ S o.dst T x=some (true,S')):rq P w0 W0 Z H S' a o.dst w (execOp a.eval o):=by
 unfold nt at e;split at e
 ·rename_i av jU;split at e
  ·rename_i g hg;split at e
   ·rename_i r hr;have hl:=G' h jU hg;cases hc:(X8 g.ty r&&Θ.is T g.ty) with
    |false=>rw[hc] at e;cases e
    |true=>rw[hc] at e;replace hc:=((Bool.and_eq_true _ _).mp hc).2;simp only[cond_true,Option.some.injEq,Prod.mk.injEq,true_and] at e;subst e;obtain⟨u,h1,h2⟩:=Yx hT h hl hr hc;refine dX h (v:=u) (λw2 hw=>?_) h2;simp only[execOp,ho,Sem.run_bind,h1 w2 hw];rfl
   cases e
  cases e
 cases e
end Go.Pv
namespace Go.Pv
open List Int IntKind
variable {P:Program} {w w':World} {A A':Nat->Prop} {H:Nat->Value} {tm FP:Nat->Value} {S S':St} {σ:Nat->Option Nat} {w0:World} {W0 Z:Nat->Prop} {a:Act} {own:Nat->Prop} {v:Value} {Θ:fA} {dst:Option Nat}
theorem tW:∀ (p:Path) {t:Ty} {m:Md} {x:t.I} {b:TV},m.b5=true->a7 p t m x=some b->b.m.b5=true
 |[],t,m,x,b,hk,hg=>by simp only[a7,Option.some.injEq] at hg;subst hg;exact hk
 | .deref::p,.ptr t,m,x,b,hk,hg=>by simp only[a7] at hg;exact tW p (EE hk) hg
 | .fst::p,.pair _ _,m,x,b,hk,hg=>by simp only[a7] at hg;exact tW p (X9 hk) hg
 | .snd::p,.pair _ _,m,x,b,hk,hg=>by simp only[a7] at hg;exact tW p (Ya hk) hg
 | .idx i::p,.sl t,m,x,b,hk,hg=>by simp only[a7] at hg;exact tW p (EE hk) hg
theorem rr:∀ (p:Path) {t:Ty} {m:Md} {x:t.I} {b:TV},aI p=true->a7 p t m x=some b->valid p t x
 |[],_,_,_,_,_,_=>trivial
 | .fst::p,.pair _ _,m,x,b,h,hg=>by simp only[a7] at hg;simp only[valid];exact rr p (by simpa[aI] using h) hg
 | .snd::p,.pair _ _,m,x,b,h,hg=>by simp only[a7] at hg;simp only[valid];exact rr p (by simpa[aI] using h) hg
theorem ET:∀ (p:Path) {t:Ty} {m:Md} {x:t.I} {b:TV},aI p=true->a7 p t m x=some b->pN p t=some b.t
 |[],_,_,_,_,_,hg=>by simp only[a7,Option.some.injEq] at hg;subst hg;rfl
 | .fst::p,.pair _ _,m,x,b,h,hg=>by simp only[a7] at hg;simp only[pN];exact ET p (by simpa[aI] using h) hg
 | .snd::p,.pair _ _,m,x,b,h,hg=>by simp only[a7] at hg;simp only[pN];exact ET p (by simpa[aI] using h) hg
theorem tX:∀ (p q:Path),aI p=true->aI q=true->aI (p++q)=true
 |[],_,_,h=>h
 | .fst::p,q,h,h'=>by simp only[List.cons_append,aI];exact tX p q (by simpa[aI] using h) h'
 | .snd::p,q,h,h'=>by simp only[List.cons_append,aI];exact tX p q (by simpa[aI] using h) h'
theorem zQ:∀ n,aI (List.replicate n .snd)=true
 |0=>rfl
 |n+1=>by rw[List.replicate_succ];simp only[aI];exact zQ n
theorem s9 (i n:Nat):aI (BD i n)=true:=by
 unfold BD;cases Nat.beq (i+1) n<;>cases Nat.beq n 1<;>simp only[cond_true,cond_false]
 ·exact tX _ _ (zQ _) rfl
 ·exact tX _ _ (zQ _) rfl
 ·exact zQ _
 rfl
theorem anG {t:Ty} {x:t.I} {p:Path} {b:TV} {cs:List Value} {v:Value} (hm:ah (.ptr t) v cs) (h:K w A (.ptr t) x cs) (hp:aI p=true) (hg:a7 p t .k x=some b): ∃ g off,v=.pointer (some ⟨g,off,none⟩)/\K w A (.ptr b.t) b.x [.pointer (some ⟨g,off+aE p t,none⟩)]:=by
 simp only[K] at h;obtain⟨g,off,cur,T',fr,rfl,hA,hw,hs,hk⟩:=h;refine⟨g,off,by simpa[ah,isAgg] using hm.symm,?_⟩;have hl:=(xV t hk).1;obtain⟨fH,fp,k1,k2,k3⟩:=focus (w:=w) (Wr:=A) (H:=λ_=>undef) (ow:=λ_=>False) (hs:=[]) p (nu t hk) (λ_ h=>by simp at h) (rr p hp hg) hg
 rw[kh p hp hg hl] at k1;injection k1 with k1;subst k1;have hf:=hY p hp hg;simp only[K];refine⟨g,off+aE p t,cur,T',fr,rfl,hA,hw,by omega,?_⟩;have:=nj _ (tW p rfl hg) k3;rw[List.drop_take,List.take_take,List.drop_drop,Nat.min_eq_left (by omega)] at this;exact this
theorem L5 {p:Path} {t:Ty} {m:Md} {x:t.I} {b:TV} (hp:p≠[]) (h:aI p=true) (hg:a7 p t m x=some b):∃ a' b',t=.pair a' b':=by
 cases p with
 |nil=>exact absurd rfl hp
 |cons s p=>cases s<;>cases t<;>simp_all [a7,aI]
theorem agK {i n:Nat} (h:i<n):BD i n≠[]:=by
 unfold BD;cases hb:Nat.beq (i+1) n with
 |false=>simp
 |true=>
 cases hc:Nat.beq n 1 with
 |true=>simp
 |false=>
 simp only[cond_true,cond_false];have h1:=Nat.eq_of_beq_eq_true hb;have h2:=Nat.ne_of_beq_eq_false hc;cases i with
 |zero=>omega
 |succ i=>simp[List.replicate_succ]
theorem L6 (hT:eA P Θ=true) (h:a6 σ w0 W0 Z H S a w) {o:Oper} {T:TypeId} {x:Operand} {f:Nat} (ho:o.op=.fieldAddr T x f) (e:pS Θ S o.dst T x f=some (true,S')):wa P w0 W0 Z H S' a o.dst w (execOp a.eval o):=by
 unfold pS at e;split at e
 ·rename_i av i jU hi;cases du:Nat.blt f i.fs.length with
  |false=>rw[du] at e;cases e
  |true=>
   rw[du] at e
   simp only[cond_true] at e
   have hf:f<i.fs.length:=Nat.lt_of_succ_le (Nat.le_of_ble_eq_true du)
   obtain⟨_,hu,Kt⟩:=fJ hT hi
   -- the address of the field
   have run:∀ (w2:World) (g off:Nat) (b:TV) (t:Ty) (m:Md) (y:t.I),i.ty=t->a7 (BD f i.fs.length) t m y=some b->
     (Instr.fieldAt T (.pointer (some ⟨g,off,none⟩)) f).run P w2=.ok (.pointer (some ⟨g,off+aE (BD f i.fs.length) t,none⟩)) w2:=by
    intro w2 g off b t m y lU hg
    have wU:∃ a' b',i.ty=.pair a' b':=by
     subst lU
     exact L5 (agK hf) (s9 _ _) hg
    obtain⟨a',b',hp⟩:=wU
    obtain⟨fs,hfs,OF,hfo,_⟩:=As hu hp
    rw[Kt] at hfs
    have hlen:i.fs.length=fs.size:=by rw[←OF];simp
    obtain⟨fl,ap9⟩:∃ fl,fs[f]?=some fl:=⟨fs[f]'(by omega),by simp[show f<fs.size from by omega]⟩
    obtain⟨tf,h1,h2,h3,h4⟩:=s8 hfo f fl (by simpa using ap9)
    rw[Nat.zero_add,←hlen] at h1 h3
    subst lU
    rw[ET _ (s9 _ _) hg] at h1
    injection h1 with h1
    obtain⟨inf,k1,k2,_⟩:=qt hT h2
    simp only[Instr.fieldAt,Sem.run_bind,run_underlying hfs,Result.andThen_ok,ap9,Instr.sureAddr,Sem.run_pure,fieldPlace,sizeOf,typeInfo,run_program,k1,k2]
    rw[if_neg (by omega)]
    simp only[Sem.run_pure,Result.andThen_ok,tV,h3]
   split at e
   ·rename_i t m y hg
    cases lU:decide (i.ty=t) with
    |false=>rw[lU] at e;cases e
    |true=>
     rw[lU] at e
     simp only[cond_true] at e
     split at e
     ·rename_i b hb
      injection e with e;injection e with _ e;subst e
      obtain⟨cs,h1,h2⟩:=G' h jU hg
      obtain⟨g',off,hv,hk⟩:=anG h1 h2 (s9 _ _) hb
      refine dm h (v:=.pointer (some ⟨g',off+aE (BD f i.fs.length) t,none⟩)) (λw2=>?_) ⟨[_],by simp[ah,isAgg],nu (.ptr b.t) hk⟩
      simp only[execOp,ho,hv,Sem.run_bind,run w2 g' off b t .k y (by simpa using lU) hb]
      rfl
     ·cases e
   ·rename_i t s p hg
    cases lU:decide (i.ty=t) with
    |false=>rw[lU] at e;cases e
    |true=>
     rw[lU] at e
     simp only[cond_true] at e
     split at e
     ·rename_i b hb
      injection e with e;injection e with _ e;subst e
      obtain⟨r,ex,k1,k2⟩:=G' h jU hg
      obtain⟨r2,ex2,q1,q2,q3⟩:=kG hb
      rw[k1] at q1
      injection q1 with q1 RF
      subst q1 RF
      have cw:=ki q2
      obtain⟨dw,g',off,hr,ha,hv⟩:=k2 (afb cw)
      obtain⟨Qi,b',fH,fp,j1,j2,j3,j4,hM,j5,j6,j7⟩:=oM h hr
      rw[nk,j3] at q3
      simp only[Option.bind_some] at q3
      refine dm h (v:=.pointer (some ⟨g',off+aE (BD f i.fs.length) t,none⟩)) (λw2=>?_) ⟨r,dw,g',off+aE (BD f i.fs.length) t,⟨⟨ex,k1,cw⟩,nA p _ j3 hr.val (rr _ (s9 _ _) q3),⟨b,by rw[nk,j3];exact q3,rfl⟩,hr.mat⟩,?_,rfl⟩
      ·subst j4
       simp only[execOp,ho,hv,Sem.run_bind,run w2 g' off b b'.t b'.m b'.x (by simpa using lU) q3]
       rfl
      ·rw[(nB p _ dw none j3).2,j5,ha]
       simp only[Option.bind_some]
       rw[qp _ (s9 _ _) q3,j4]
     ·cases e
   ·cases e
 cases e
theorem adx {α:Type} (xs:List α) (i:Nat) (d:α) (h:i<xs.length):getD xs i d=xs[i]:=by simp[List.getD_eq_getElem?_getD,List.getElem?_eq_getElem h]
theorem BM (hT:eA P Θ=true) {T:TypeId} {t:Ty} {g off len c:Nat} {k:IntKind} {n:Int} (ht:Θ.is T (.sl t)=true) (h0:0<=n) (h1:n<(len:Int)): (Instr.indexAt T (.slice (some ⟨g,off,none⟩) len c) (.int k n)).run P w=.ok (.pointer (some ⟨g,off+n.toNat*t.size,none⟩)) w:=by obtain⟨i,hi,lU⟩:=jW ht;obtain⟨_,hu,Kt⟩:=fJ hT hi;obtain⟨u1,u2,_⟩:=yG hu lU;rw[Kt] at u1;obtain⟨inf,k1,k2,_⟩:=qt hT u2;simp[Instr.indexAt,asIntOf,run_underlying u1,h0,h1,sizeOf,typeInfo,run_program,k1,k2,tV]
theorem agL {t:Ty} {xs:List t.I} {v:Value} {cs:List Value} {n:Nat} (hm:ah (.sl t) v cs) (h:K w A (.sl t) xs cs) (hn:n<xs.length): ∃ g off c,v=.slice (some ⟨g,off,none⟩) xs.length c/\K w A (.ptr t) (getD xs n t.z) [.pointer (some ⟨g,off+n*t.size,none⟩)]:=by
 simp only[K] at h;obtain⟨X,c,rfl,hc,h⟩:=h;obtain⟨g,off,cur,T',fr,rfl,hA,hw,hs,hk⟩:=h (by omega);refine⟨g,off,c,by simpa[ah,isAgg] using hm.symm,?_⟩;simp only[K];have hb:off+n*t.size+t.size<=cur.size:=by have:=Nat.mul_le_mul_right t.size (show n+1<=xs.length from hn);rw[Nat.add_mul,Nat.one_mul] at this;omega
 exact⟨g,_,cur,T',fr,rfl,hA,hw,hb,by rw[adx _ _ _ hn];exact hk n hn⟩
theorem L7 (hT:eA P Θ=true) (h:a6 σ w0 W0 Z H S a w) {o:Oper} {T:TypeId} {x ix:Operand} (ho:o.op=.indexAddr T x ix) (e:dC Θ S o.dst T x ix=some (true,S')):wa P w0 W0 Z H S' a o.dst w (execOp a.eval o):=by
 unfold dC at e;split at e
 ·rename_i t m xs ex n jU hn;obtain⟨k,hk⟩:=sy h hn;cases hc:Θ.is T (.sl t) with
  |false=>rw[hc] at e;cases e
  |true=>
  rw[hc] at e;simp only[cond_true] at e;split at e
  ·injection e with e;injection e with e1 e;subst e;obtain⟨b1,b2⟩:=G8 e1;obtain⟨cs,h1,h2⟩:=bM h jU;have hK:=nj _ rfl h2;obtain⟨g,off,c,hv,Vb⟩:=agL (n:=n.toNat) h1 hK (by have b2':n<(length xs:Int):=b2;show n.toNat<length xs;omega);refine dm h (v:=.pointer (some ⟨g,off+n.toNat*t.size,none⟩)) (λw2=>?_) ⟨[_],by simp[ah,isAgg],nu (.ptr t) Vb⟩;simp only[execOp,ho,hv,hk,Sem.run_bind,BM hT hc b1 b2];rfl
  ·rename_i T' tag me j;split at e
   ·rename_i b hb;injection e with e;injection e with e1 e;subst e;obtain⟨b1,b2⟩:=G8 e1;have iT:S.at j=.v ⟨.sl t,.o T' tag me,xs⟩ ex:=by simpa[St.jT] using jU
    obtain⟨r2,ex2,q1,q2,q3⟩:=kG hb;rw[iT] at q1;injection q1 with q1 RF;subst q1 RF;have cw:=ki q2;obtain⟨cs,h1,h2⟩:=bM h jU;simp only[M] at h2;rcases h2 with⟨wU,_⟩ |⟨mc,_⟩ |⟨T2,Yy,me2,X,c,e2,rfl,hcc,afc,h2⟩
    ·exact absurd wU cw.not_nil
    ·simp[Md.b5] at mc
    have hv:a.eval (.tmp j)=.slice X xs.length c:=(by simpa[ah,isAgg] using h1.symm);rcases h2 with⟨rfl,_⟩ |⟨g,cur,τ,rfl,hg,hw,pL,hm,hj⟩
    ·simp at b2;omega
    have du:n.toNat<xs.length:=(by omega);have hbound:0+n.toNat*t.size+t.size<=cur.size:=(by have h1:=Nat.mul_le_mul_right t.size (show n.toNat+1<=xs.length from du);have h2:=Nat.mul_le_mul_right t.size hcc;rw[Nat.add_mul,Nat.one_mul] at h1;omega);refine dm h (v:=.pointer (some ⟨g,0+n.toNat*t.size,none⟩)) (λw2=>?_) ⟨_,[.slice (some ⟨g,0,none⟩) xs.length c],g,0+n.toNat*t.size,⟨⟨ex,iT,cw⟩,⟨du,trivial⟩,⟨_,rfl,rfl⟩,h1⟩,?_,rfl⟩
    ·simp only[execOp,ho,hv,hk,Sem.run_bind,BM hT hc b1 b2];rfl
    simp only[addrAt,bH hw hbound,Option.bind_some]
   cases e
  cases e
 ·rename_i t s p n jU hn;obtain⟨k,hk⟩:=sy h hn;cases hc:Θ.is T (.sl t) with
  |false=>rw[hc] at e;cases e
  |true=>
  rw[hc] at e;simp only[cond_true] at e;obtain⟨r,dw,cs,hr,rX,hm⟩:=bM h jU;obtain⟨ex,b,fH,fp,j1,j2,j3,j4,hM,j5,j6,j7⟩:=oM h hr;rw[rX] at j5;injection j5 with j5;subst j5;split at e
  ·rename_i t' xs PJ;injection e with e;injection e with e1 e;subst e;obtain⟨b1,b2⟩:=G8 e1;obtain⟨r2,ex2,q1,q2,q3⟩:=kG PJ;rw[j1] at q1;injection q1 with q1 RF;subst q1 RF;rw[j3] at q3;injection q3 with q3;subst q3;injection j4 with j4;subst j4;have hK:=nj _ rfl j7;obtain⟨g,off,c,hv,Vb⟩:=agL (n:=n.toNat) hm hK (by have b2':n<(length xs:Int):=b2;show n.toNat<length xs;omega);refine dm h (v:=.pointer (some ⟨g,off+n.toNat*Ty.size t',none⟩)) (λw2=>?_) ⟨[_],by simp[ah,isAgg],nu (.ptr _) Vb⟩;simp only[execOp,ho,hv,hk,Sem.run_bind,BM hT hc b1 b2];rfl
  ·rename_i t' T' tag me xs PJ;split at e
   ·rename_i b2' hb;injection e with e;injection e with e1 e;subst e;obtain⟨b1,b2⟩:=G8 e1;obtain⟨r2,ex2,q1,q2,q3⟩:=kG PJ;rw[j1] at q1;injection q1 with q1 RF;subst q1 RF;rw[j3] at q3;injection q3 with q3;subst q3;injection j4 with j4;subst j4;obtain⟨r3,ex3,p1,p2,p3⟩:=kG hb;rw[j1] at p1;injection p1 with p1 p1';subst p1 p1';have cw:=ki p2;simp only[M] at j7;rcases j7 with⟨wU,_⟩ |⟨mc,_⟩ |⟨T2,Yy,me2,X,c,e2,rfl,hcc,afc,h2⟩
    ·exact absurd wU (L4 cw)
    ·simp[Md.b5] at mc
    have hv:a.eval x=.slice X (length xs) c:=(by simpa[ah,isAgg] using hm.symm);rcases h2 with⟨rfl,_⟩ |⟨g,cur,τ,rfl,hg,hw,pL,hm',hj⟩
    ·simp at b2;omega
    have du:n.toNat<length xs:=(by omega);have hbound:0+n.toNat*Ty.size t'+Ty.size t'<=cur.size:=(by have h1:=Nat.mul_le_mul_right (Ty.size t') (show n.toNat+1<=length xs from du);have h2:=Nat.mul_le_mul_right (Ty.size t') hcc;rw[Nat.add_mul,Nat.one_mul] at h1;omega);refine dm h (v:=.pointer (some ⟨g,0+n.toNat*Ty.size t',none⟩)) (λw2=>?_) ⟨r,dw,g,0+n.toNat*Ty.size t',⟨⟨ex,j1,cw⟩,nA p _ j3 hr.val ⟨du,trivial⟩,⟨_,by rw[nk,j3];rfl,rfl⟩,hr.mat⟩,?_,rfl⟩
    ·simp only[execOp,ho,hv,hk,Sem.run_bind,BM hT hc b1 b2];rfl
    rw[(nB p _ dw none j3).2,rX];simp only[Option.bind_some,addrAt,bH hw hbound]
   cases e
  cases e
 cases e
end Go.Pv
namespace Go.Pv
open List Int IntKind
variable {P:Program} {w w':World} {A A':Nat->Prop} {H:Nat->Value} {tm FP:Nat->Value} {S S':St} {σ:Nat->Option Nat} {w0:World} {W0 Z:Nat->Prop} {a:Act} {own:Nat->Prop} {v:Value} {Θ:fA} {dst:Option Nat}
theorem Io {k:IntKind} {i:Int} {y:Nat} {code:BoundsCode} (h0:0<=i) (h1:i<=y):(Instr.sliceBound (.int k i) y code).run P w=.ok i.toNat w:=by simp[Instr.sliceBound,asIntOf,h0,h1]
theorem RI {sl:Bool} {len cap:Nat} {lo hi:Option Value} {l h:Int} (Yg:(lo=none/\l=0)∨∃ k,lo=some (.int k l)) (Rq:(hi=none/\h=len)∨∃ k,hi=some (.int k h)) (h0:0<=l) (h1:l<=h) (h2:h<=len) (h3:len<=cap):(Instr.sliceBounds sl len cap lo hi none).run P w=.ok (l.toNat,h.toNat,cap) w:=by
 have e1:∀ k code,(Instr.sliceBound (.int k l) h.toNat code).run P w=.ok l.toNat w:=λk code=>Io h0 (by omega);have e2:∀ k code,(Instr.sliceBound (.int k h) cap code).run P w=.ok h.toNat w:=λk code=>Io (by omega) (by omega);unfold Instr.sliceBounds;rcases Yg with⟨rfl,rfl⟩ |⟨k,rfl⟩<;>rcases Rq with⟨rfl,rfl⟩ |⟨k',rfl⟩
 ·simp
 ·simp[e2]
 ·have L8:∀ k code,(Instr.sliceBound (.int k l) len code).run P w=.ok l.toNat w:=λk code=>Io h0 (by omega);simp[L8]
 simp[e1,e2]
theorem ta (h:a6 σ w0 W0 Z H S a w) {x:Option Operand} {d n:Int} (e:qV Θ S d x=some n):(x.map a.eval=none/\n=d)∨∃ k,x.map a.eval=some (.int k n):=by
 cases x with
 |none=>simp only[qV,Option.some.injEq] at e;exact .inl ⟨rfl,e.symm⟩
 |some x=>obtain⟨k,hk⟩:=sy h e;exact .inr ⟨k,by simp[hk]⟩
theorem Yz (hT:eA P Θ=true) (h:a6 σ w0 W0 Z H S a w) {o:Oper} {T:TypeId} {x:Operand} {lo hi mx:Option Operand} (ho:o.op=.slice T x lo hi mx) (e:lr Θ S o.dst T x lo hi mx=some (true,S')):wa P w0 W0 Z H S' a o.dst w (execOp a.eval o):=by
 unfold lr at e;split at e
 ·rename_i av m s l jU hrd hl;split at e
  ·rename_i hh Rq;cases hc:Θ.is T .str with
   |false=>rw[hc] at e;cases e
   |true=>rw[hc] at e;simp only[cond_true,Option.some.injEq,Prod.mk.injEq,Bool.and_eq_true,decide_eq_true_eq] at e;obtain⟨⟨⟨b1,b2⟩,b3⟩,e⟩:=e;subst e;obtain⟨cs,h1,h2,_⟩:=kQ h hrd;have hv:=kY h1 h2;obtain⟨i,G0,lU⟩:=jW hc;obtain⟨_,hu,Kt⟩:=fJ hT G0;have Il:=EO hu lU;rw[Kt] at Il;refine dm h (v:=.string (s.extract l.toNat hh.toNat)) (λw2=>?_) (U9 _);have hb:=RI (P:=P) (w:=w2) (sl:=false) (ta h hl) (ta h Rq) b1 b2 b3 (Nat.le_refl _);simp[execOp,ho,hv,Instr.sliceAt,Instr.slice,run_underlying Il,hb]
  cases e
 ·rename_i av t m xs l jU hrd hl;cases hc:Θ.is T (.sl t) with
  |false=>rw[hc] at e;cases e
  |true=>
  rw[hc] at e;simp only[cond_true] at e;obtain⟨i,G0,lU⟩:=jW hc;obtain⟨_,hu,Kt⟩:=fJ hT G0;obtain⟨u1,u2,_⟩:=yG hu lU;rw[Kt] at u1;obtain⟨inf,q1,q2,_⟩:=qt hT u2;obtain⟨cs,h1,h2,h3⟩:=kQ h hrd;obtain⟨X,c,hv,qk,hlc⟩:=Au h1 h2;have run:∀ (hh:Int),qV Θ S (xs.length:Int) hi=some hh->mx=none->0<=l->l<=hh->hh<=(xs.length:Int)->
    ∀ w2,(execOp a.eval o).run P w2=.ok (.value (.slice (if c=l.toNat then X else X.map (·.add (l.toNat*t.size))) (hh.toNat - l.toNat) (c - l.toNat))) w2:=by
   intro hh Rq hmx b1 b2 b3 w2
   subst hmx
   have hb:=RI (P:=P) (w:=w2) (sl:=true) (ta h hl) (ta h Rq) b1 b2 b3 hlc
   simp[execOp,ho,hv,Instr.sliceAt,Instr.slice,run_underlying u1,hb,sizeOf,typeInfo,run_program,q1,q2]
  split at e
  ·rename_i _ hh Rq;split at e
   ·simp only[Option.some.injEq,Prod.mk.injEq,Bool.and_eq_true,decide_eq_true_eq] at e;obtain⟨⟨⟨b1,b2⟩,b3⟩,e⟩:=e;subst e;have hK:=h3 rfl;subst qk;exact dm h (run hh Rq rfl b1 b2 b3) ⟨[_],by simp[ah,isAgg],nu (.sl t) (adu hK (by omega) (by omega))⟩
   ·rename_i b ex i _;simp only[Option.some.injEq,Prod.mk.injEq,Bool.and_eq_true,decide_eq_true_eq] at e;obtain⟨⟨⟨b1,b2⟩,b3⟩,e⟩:=e;subst e;have iT:S.at i=.v b ex:=by simpa[St.jT] using jU
    unfold St.rd at hrd;rw[jU] at hrd;cases ex with
    |cons _ _=>simp[St.Ii] at hrd
    |nil=>simp only[St.Ii,Option.some.injEq] at hrd;subst hrd;subst qk;refine dm h (run hh Rq rfl b1 b2 b3) ⟨_,_,t,X,length xs,c,⟨⟨[],iT,λq hq=>by simp at hq⟩,trivial,⟨_,rfl,rfl⟩,h1⟩,rfl,rfl,by omega,by omega,rfl⟩
   ·rename_i _ s p hm;simp only[Option.some.injEq,Prod.mk.injEq,Bool.and_eq_true,decide_eq_true_eq] at e;obtain⟨⟨⟨b1,b2⟩,b3⟩,e⟩:=e;subst e;obtain⟨r,dw,fH,hr,rX,hmm⟩:=bM h jU;unfold St.rd at hrd;rw[jU] at hrd;simp only[St.Ii] at hrd;obtain⟨LN,_⟩:=gy h hr rX hrd;simp only at LN;subst LN;obtain rfl:=eG h1 hmm;subst qk;refine dm h (run hh Rq rfl b1 b2 b3) ⟨r,dw,t,X,length xs,c,hr,rfl,rX,by omega,by omega,rfl⟩
   cases e
  ·rename_i _ hh z ii Rq agM;split at e
   ·rename_i c' hx hz;simp only[Option.some.injEq,Prod.mk.injEq,Bool.and_eq_true,decide_eq_true_eq] at e;obtain⟨⟨⟨rfl,rfl⟩,rfl⟩,e⟩:=e;subst e;obtain⟨kz,hkz⟩:=sy h hz;refine dm h (v:=.slice X 0 0) (λw2=>?_) ⟨[.slice X 0 0],by simp[ah,isAgg],?_⟩
    ·have hl':=ta h hl;have hh':=ta h Rq;have hb:(Instr.sliceBounds true xs.length c (lo.map a.eval) (some (a.eval hx)) (some (.int kz 0))).run P w2=.ok (0,0,0) w2:=by
      have e0:∀ k y code,(Instr.sliceBound (.int k 0) y code).run P w2=.ok 0 w2:=λk y code=>Io (by omega) (by omega);have hh2:∃ k,a.eval hx=.int k 0:=by
       rcases hh' with⟨hh',_⟩ |⟨k,hh'⟩
       ·simp at hh'
       exact⟨k,by simpa using hh'⟩
      obtain⟨k2,Vb⟩:=hh2;unfold Instr.sliceBounds;rcases hl' with⟨hl',_⟩ |⟨k1,hl'⟩<;>rw[hl',Vb]<;>simp[e0]
     simp[execOp,ho,hv,Instr.sliceAt,Instr.slice,run_underlying u1,hkz,hb,sizeOf,typeInfo,run_program,q1,q2]
    simp only[M];exact .inr (.inr ⟨_,_,_,X,0,rfl,rfl,Nat.le_refl _,λh hh=>(by cases hh),.inl (by simp)⟩)
   cases e
  cases e
 cases e
end Go.Pv
namespace Go.Pv
open List Int IntKind
variable {P:Program} {w w':World} {A A' Wr:Nat->Prop} {H:Nat->Value} {tm FP:Nat->Value} {S S' S1:St} {σ:Nat->Option Nat} {w0:World} {W0 Z:Nat->Prop} {a:Act} {own:Nat->Prop} {v:Value} {Θ:fA} {dst:Option Nat}
theorem Vc:∀ (p:Path) {t:Ty} {m:Md} {x:t.I} {cs:List Value} {ow:Nat->Prop} {hs:List Path} {b:TV},M w Wr H t m x cs ow hs->open_ p hs->valid p t x->a7 p t m x=some b->b.m.b5=false-> ∃ fH fp,aH w p t cs=some fH/\(∀ g,fp g->ow g)/\M w Wr H b.t b.m b.x fH fp (LM p hs)/\M w Wr H t m x cs (λg=>ow g/\ ¬fp g) (hs++[p])
 |[],t,m,x,cs,ow,hs,b,h,ho,hv,hg,hk=>by
  simp only[a7,Option.some.injEq] at hg;subst hg;refine⟨cs,ow,rfl,λ_ h=>h,h,?_⟩;simp only at hk;have tM:=lQ t h;cases t<;>simp only[M] at h ⊢<;>first
   |(rw[hk] at h;exact absurd h.1 (by simp))
   |(exact .inl ⟨by simp,hk,tM⟩)
   |(
     rcases h with⟨_,_,h⟩ |⟨mc,_⟩ |⟨T,tag,me,A,c,_,rfl,_⟩
     ·exact .inl ⟨by simp,hk,h⟩
     ·rw[hk] at mc;cases mc
     ·exact .inl ⟨by simp,hk,A,c,rfl⟩)
 | .deref::p,.ptr t,m,x,cs,ow,hs,b,h,ho,hv,hg,hk=>by
  simp only[a7] at hg;simp only[valid] at hv;simp only[M] at h;rcases h with⟨hn,_⟩ |⟨mc,h⟩ |⟨T,tag,me,g,cur,rfl,rfl,ht,FN,hw,h⟩
  ·exact absurd hn ho.not_nil
  ·rw[tW p (EE mc) hg] at hk;cases hk
  have hlen:=(lQ t h).1;obtain⟨fH,fp,h1,h2,h3,h4⟩:=Vc p h ho.sub hv hg hk;have pL:0+t.size<=cur.size:=(by rw[←hlen];simp);refine⟨fH,fp,?_,λg hg=>(h2 g hg).1,h3,?_⟩
  ·simp only[aH,bH hw pL,Option.bind_some,List.drop_zero];rw[List.take_of_length_le (by omega)];exact h1
  simp only[M];exact .inr (.inr ⟨T,tag,me,g,cur,rfl,rfl,ht,⟨FN,λhx=>(h2 g hx).2 rfl⟩,hw,aG (aU.refl _ _) t (λ_ _ _=>rfl) (λg' bq _=>⟨⟨bq.1.1,bq.2⟩,bq.1.2⟩) (λq hq=>by
   rcases List.mem_append.1 hq with hq |hq
   ·exact jn.2 (List.mem_append_left _ (jn.1 hq))
   ·rw[List.mem_singleton.1 hq];exact jn.2 (List.mem_append_right _ (by simp))) h4⟩)
 | .fst::p,.pair a b',m,x,cs,ow,hs,b,h,ho,hv,hg,hk=>by
  simp only[a7] at hg;simp only[valid] at hv;simp only[M] at h;rcases h with⟨hn,_⟩ |⟨mc,h⟩ |⟨ma,mb,c0,c1,s,rfl,rfl,h0,h1⟩
  ·exact absurd hn ho.not_nil
  ·rw[tW p (X9 mc) hg] at hk;cases hk
  obtain⟨fH,fp,k1,k2,k3,k4⟩:=Vc p h0 ho.sub hv hg hk;refine⟨fH,fp,by simp only[aH];rw[←(lQ a h0).1,List.take_left];exact k1,λg hg=>(k2 g hg).1,k3,?_⟩;simp only[M];refine .inr (.inr ⟨ma,mb,c0,c1,s,rfl,rfl,aG (aU.refl _ _) a (λ_ _ _=>rfl) (λg' bq _=>⟨⟨bq.1.1,bq.2⟩,bq.1.2⟩) (λq hq=>?_) k4,aG (aU.refl _ _) b' (λ_ _ _=>rfl) (λg' bq _=>⟨⟨bq.1,λhx=>bq.2 (k2 g' hx).2⟩,bq.2⟩) (Ak (λq hq=>List.mem_append_left _ hq)) h1⟩);rcases List.mem_append.1 hq with hq |hq
  ·exact jn.2 (List.mem_append_left _ (jn.1 hq))
  rw[List.mem_singleton.1 hq];exact jn.2 (List.mem_append_right _ (by simp))
 | .snd::p,.pair a b',m,x,cs,ow,hs,b,h,ho,hv,hg,hk=>by
  simp only[a7] at hg;simp only[valid] at hv;simp only[M] at h;rcases h with⟨hn,_⟩ |⟨mc,h⟩ |⟨ma,mb,c0,c1,s,rfl,rfl,h0,h1⟩
  ·exact absurd hn ho.not_nil
  ·rw[tW p (Ya mc) hg] at hk;cases hk
  obtain⟨fH,fp,k1,k2,k3,k4⟩:=Vc p h1 ho.sub hv hg hk;refine⟨fH,fp,by simp only[aH];rw[←(lQ a h0).1,List.drop_left];exact k1,λg hg=>(k2 g hg).1,k3,?_⟩;simp only[M];refine .inr (.inr ⟨ma,mb,c0,c1,s,rfl,rfl,aG (aU.refl _ _) a (λ_ _ _=>rfl) (λg' bq _=>⟨⟨bq.1,λhx=>(k2 g' hx).2 bq.2⟩,bq.2⟩) (Ak (λq hq=>List.mem_append_left _ hq)) h0,aG (aU.refl _ _) b' (λ_ _ _=>rfl) (λg' bq _=>⟨⟨bq.1.1,bq.2⟩,bq.1.2⟩) (λq hq=>?_) k4⟩);rcases List.mem_append.1 hq with hq |hq
  ·exact jn.2 (List.mem_append_left _ (jn.1 hq))
  rw[List.mem_singleton.1 hq];exact jn.2 (List.mem_append_right _ (by simp))
 | .idx i::p,.sl t,m,xs,cs,ow,hs,b,h,ho,hv,hg,hk=>by
  simp only[a7] at hg;simp only[valid] at hv;obtain⟨hi,hv⟩:=hv;have mm:getD xs i t.z=xs[i]:=adx _ _ _ hi;simp only[M] at h;rcases h with⟨hn,_⟩ |⟨mc,h⟩ |⟨T,tag,me,X,c,rfl,rfl,hc,ht,h⟩
  ·exact absurd hn ho.not_nil
  ·rw[tW p (EE mc) hg] at hk;cases hk
  rcases h with⟨rfl,_⟩ |⟨g,cur,τ,rfl,FN,hw,pL,hm,h⟩
  ·simp at hi
  have hbound:0+i*t.size+t.size<=cur.size:=(by have h1:=Nat.mul_le_mul_right t.size (show i+1<=xs.length from hi);have h2:=Nat.mul_le_mul_right t.size hc;rw[Nat.add_mul,Nat.one_mul] at h1;omega);have hM:=h i hi;rw[←mm] at hM;obtain⟨fH,fp,h1,h2,h3,h4⟩:=Vc p hM ho.sub hv hg hk;refine⟨fH,fp,by simp only[aH,bH hw hbound,Option.bind_some];rw[Nat.zero_add];exact h1,λg hg=>(h2 g hg).1,h3,?_⟩;simp only[M];refine .inr (.inr ⟨T,tag,me,some ⟨g,0,none⟩,c,rfl,rfl,hc,ht,.inr ⟨g,cur,τ,rfl,⟨FN,λhx=>(h2 g hx).2.1 rfl⟩,hw,pL,hm,λj hj=>?_⟩⟩);by_cases zN:j=i
  ·subst zN;rw[mm] at h4;refine aG (aU.refl _ _) t (λ_ _ _=>rfl) (λg' bq _=>⟨⟨bq.1.1,bq.2⟩,bq.1.2⟩) (λq hq=>?_) h4;rcases List.mem_append.1 hq with hq |hq
   ·exact jn.2 (List.mem_append_left _ (jn.1 hq))
   rw[List.mem_singleton.1 hq];exact jn.2 (List.mem_append_right _ (by simp))
  exact aG (aU.refl _ _) t (λ_ _ _=>rfl) (λg' bq _=>⟨⟨bq.1,λhx=>zN (by rw[←bq.2.2];exact(h2 g' hx).2.2)⟩,bq.2⟩) (Ak (λq hq=>List.mem_append_left _ hq)) (h j hj)
theorem x6 (a:Act) (i:Nat):a.put (some i) (cn a i)=a:=by
 unfold Act.put cn;simp only;have:a.tmps.setIfInBounds i (a.tmps.getD i undef)=a.tmps:=by
  apply Array.ext_getElem?;intro j;rw[Array.getElem?_setIfInBounds,Array.getD_eq_getD_getElem?];by_cases h:i=j
  ·subst h;by_cases hl:i<a.tmps.size
   ·simp[hl]
   simp[hl]
  simp[h]
 rw[this]
def vX (σ:Nat->Option Nat) (q s:Nat) (g:Nat):Option Nat:=if σ g=some s then some q else σ g
theorem ady {σ:Nat->Option Nat} {Z:Nat->Prop} {q s g:Nat}:Av (vX σ q s) Z g↔Av σ Z g:=by
 unfold Av vX;by_cases h:σ g=some s
 ·rw[if_pos h,h];exact⟨λ_=>.inl ⟨s,rfl⟩,λ_=>.inl ⟨q,rfl⟩⟩
 rw[if_neg h]
structure pO (σ bU:Nat->Option Nat) (n:Nat) (ow:Nat->Prop):Prop where
 YA:∀ g,ow g->∃ i,i<n/\σ g=some i
 now:∀ g,ow g->∃ i,n<=i/\bU g=some i
 sub:∀ g i,bU g=some i->i<n->σ g=some i
 dom:∀ g,(∃ i,bU g=some i)↔∃ i,σ g=some i
 par:∀ g i,σ g=some i->n<=i->bU g=some i
theorem pO.none (σ:Nat->Option Nat) (n:Nat):pO σ σ n λ_=>False:=⟨λ_ h=>h.elim,λ_ h=>h.elim,λ_ _ h _=>h,λ_=>Iff.rfl,λ_ _ h _=>h⟩
theorem pO.vX (σ:Nat->Option Nat) {n s:Nat} (hs:s<n) {ow:Nat->Prop} (h:∀ g,ow g->σ g=some s):pO σ (vX σ n s) n ow:=by
 refine⟨λg hg=>⟨s,hs,h g hg⟩,λg hg=>⟨n,Nat.le_refl _,by unfold Go.Pv.vX;rw[if_pos (h g hg)]⟩,λg i hg hi=>?_,λg=>?_,λg i hg hi=>?_⟩
 ·unfold Go.Pv.vX at hg;split at hg
  ·injection hg with hg;omega
  exact hg
 ·unfold Go.Pv.vX;split
  ·rename_i h;rw[h];exact⟨λ_=>⟨s,rfl⟩,λ_=>⟨n,rfl⟩⟩
  exact Iff.rfl
 unfold Go.Pv.vX;rw[if_neg (by rw[hg];intro e;injection e with e;omega)];exact hg
theorem pO.Av {σ bU:Nat->Option Nat} {n:Nat} {ow:Nat->Prop} (h:pO σ bU n ow) {Z:Nat->Prop} {g:Nat}:Av bU Z g↔Av σ Z g:=by unfold Go.Pv.Av;rw[h.dom g]
theorem kT {S:St} {i:Nat} (h:S.at i≠ .dead):i<S.length:=by
 rcases Nat.lt_or_ge i S.length with hl |hl
 ·exact hl
 refine absurd ?_ h;unfold St.at;rw[List.getD_eq_getElem?_getD,List.getElem?_eq_none hl];rfl
theorem a6.vX (h:a6 σ w0 W0 Z H S a w) (i:Nat):a6 (vX σ S.length i) w0 W0 Z H (S.put (some i) .dead) a w:=by
 have cP:aU w w (Av σ Z) (Av (Go.Pv.vX σ S.length i) Z):=⟨λ_ _ _=>rfl,λg _ hg=>ady.1 hg⟩;have hs:∀ g j,Go.Pv.vX σ S.length i g=some j->∃ k,σ g=some k:=λg j hg=>by
  unfold Go.Pv.vX at hg;split at hg
  ·exact⟨_,by assumption⟩
  exact⟨_,hg⟩
 have:=h.put (dst:=some i) (av:=.dead) (v:=cn a i) cP h.fr (λg j hg=>by
  obtain⟨k,hk⟩:=hs g j hg
  exact⟨h.new g k hk,h.lt g k hk⟩) (λg hg=>by unfold Go.Pv.vX;rw[(h.old g hg).1];simp) (λj g _ hd hg=>⟨rfl,by unfold Go.Pv.vX;rw[if_neg (by rw[hg];intro e;exact hd e.symm)];exact hg⟩) (λ_ _ _ _=>trivial)
 rw[x6] at this;exact this
theorem RJ (S:St) (d:Nat) (p:Path) (i:Nat):(S.cover d p).at i=match S.at i with
 | .ad t s q=>bif Nat.beq s d&&under p q then .dead else .ad t s q
 |a=>a:=Rn S _ rfl i
theorem Ref.re {t:Ty} {s:Nat} {p:Path} {r:TV} {dw:List Value} (h:Ref tm S t s p r dw) (hk:∀ ex,S.at s=.v r ex->open_ p ex->∃ Qi,S'.at s=.v r Qi/\open_ p Qi):Ref tm S' t s p r dw:=by obtain⟨⟨ex,h1,h2⟩,h3,h4,h5⟩:=h;exact⟨hk ex h1 h2,h3,h4,h5⟩
theorem pV {d:Nat} {p:Path} {r:TV} {ex:List Path} (hd:S.at d=.v r ex) (hS:∀ i r' Qi,i≠d->S.at i=.v r' Qi->S'.at i=.v r' Qi) (hS':S'.at d=.v r (ex++[p])) {own:Nat->Prop} {av:AV} {v:Value} (hf:av.kS d=false) (hc:∀ t q,av=.ad t d q->under p q=false) (h:Holds w A H tm S own av v) (hnv:∀ b ex,av≠ .v b ex) (hnt:∀ l,av≠ .Ih l):Holds w A H tm S' own av v:=by
 have hre:∀ {t:Ty} {s:Nat} {q:Path} {r':TV} {dw:List Value},Ref tm S t s q r' dw->(s=d->under p q=false)->Ref tm S' t s q r' dw:=by
  intro t s q r' dw hr hu;refine hr.re (λex1 h1 h2=>?_);by_cases On:s=d
  ·subst On;rw[hd] at h1;injection h1 with h1 h1';subst h1 h1';refine⟨ex++[p],hS',λq' Gy s' r' e=>?_⟩;rcases List.mem_append.1 Gy with Gy |Gy
   ·exact h2 q' Gy s' r' e
   rw[List.mem_singleton.1 Gy] at e;have:=hu rfl;rw[e,Aj] at this;cases this
  exact⟨ex1,hS s r' ex1 On h1,h2⟩
 have akE:under p []=false:=by cases p<;>rfl
 cases av with
 |dead=>trivial
 |undef=>exact h
 |v b ex=>exact absurd rfl (hnv _ _)
 |Ih l=>exact absurd rfl (hnt _)
 |al t s q=>
  obtain⟨r',dw,cs,h1,h2,h3⟩:=h;refine⟨r',dw,cs,hre h1 (λe=>?_),h2,h3⟩;subst e;cases q with
  |nil=>exact akE
  |cons _ _=>simp[AV.kS] at hf
 |ad t s q=>obtain⟨r',dw,g,off,h1,h2,h3⟩:=h;exact⟨r',dw,g,off,hre h1 (λe=>by subst e;exact hc _ _ rfl),h2,h3⟩
 |cut t s q lo hi=>obtain⟨r',dw,t',X,n,c,h1,h2⟩:=h;refine⟨r',dw,t',X,n,c,hre h1 (λe=>?_),h2⟩;subst e;simp[AV.kS] at hf
 |vY f fc=>
 obtain⟨vs,h1,h2,h3⟩:=h;refine⟨vs,h1,h2,λj c hj=>?_⟩;obtain⟨u,k1,k2⟩:=h3 j c hj;refine⟨u,k1,?_⟩;cases c with
 |kv b=>exact k2
 |pl t s q=>
 obtain⟨r',dw,cs,l1,l2,l3⟩:=k2;refine⟨r',dw,cs,hre l1 (λe=>?_),l2,l3⟩;subst e;cases q with
 |nil=>exact akE
 |cons a' q'=>simp only[AV.kS] at hf;have wU:=List.any_eq_false.1 hf _ (List.mem_of_getElem? hj);simp at wU
theorem lV (h:a6 σ w0 W0 Z H S a w) {T:TypeId} {x:Operand} {av:AV} {b:TV} (ho:S.jT Θ T x=some av) (e:S.jL x av=some (b,S1)): ∃ bU cs ow,a6 bU w0 W0 Z H S1 a w/\ah b.t (a.eval x) cs/\M w (Av σ Z) H b.t b.m b.x cs ow []/\pO σ bU S.length ow/\S1.length=S.length:=by
 have hh:=bM h ho;cases av with
 |v b0 ex=>
  simp only[St.jL] at e;cases hk:b0.m.b5 with
  |true=>rw[hk] at e;simp only[cond_true,Option.some.injEq,Prod.mk.injEq] at e;obtain⟨rfl,rfl⟩:=e;obtain⟨cs,h1,h2⟩:=hh;exact⟨σ,cs,λ_=>False,h,h1,CG hk (nj _ hk h2),pO.none _ _,rfl⟩
  |false=>
  rw[hk] at e;simp only[cond_false] at e;split at e
  ·rename_i i;simp only[Option.some.injEq,Prod.mk.injEq] at e;obtain⟨rfl,rfl⟩:=e;obtain⟨cs,h1,h2⟩:=hh;refine⟨_,cs,_,h.vX i,h1,h2,pO.vX σ (kT ?_) (λg hg=>?_),bK _ _ _⟩
   ·simp only[St.jT,Option.some.injEq] at ho;rw[ho];exact λe=>by cases e
   obtain⟨j,hj,hg⟩:=hg;injection hj with hj;subst hj;exact hg
  ·rename_i hx;simp only[Option.some.injEq,Prod.mk.injEq] at e;obtain⟨rfl,rfl⟩:=e;obtain⟨cs,h1,h2⟩:=hh;refine⟨σ,cs,λ_=>False,h,h1,aG (aU.refl _ _) _ (λ_ _ _=>rfl) (λg hg _=>?_) (λ_ h=>h) h2,pO.none _ _,rfl⟩;obtain⟨j,hj,_⟩:=hg;exact hx j hj
  cases e
 |al t s p=>
  simp only[St.jL] at e;obtain⟨r,dw,cs,hr,hc,hm⟩:=hh;split at e
  ·rename_i b' hb;cases hk:b'.m.b5 with
   |true=>rw[hk] at e;simp only[cond_true,Option.some.injEq,Prod.mk.injEq] at e;obtain⟨rfl,rfl⟩:=e;obtain⟨LN,fp,_,hM⟩:=gy h hr hc hb;exact⟨σ,cs,λ_=>False,h,by rw[LN];exact hm,CG hk (nj _ hk hM),pO.none _ _,rfl⟩
   |false=>
   rw[hk] at e;simp only[cond_false] at e;cases hp:p with
   |nil=>subst hp;simp only[Option.some.injEq,Prod.mk.injEq] at e;obtain⟨rfl,rfl⟩:=e;obtain⟨LN,fp,GL,hM⟩:=gy h hr hc hb;obtain⟨ex0,hs0,_⟩:=hr.at_;exact⟨_,cs,fp,h.vX s,by rw[LN];exact hm,hM,pO.vX σ (kT (by rw[hs0];exact λe=>by cases e)) GL,bK _ _ _⟩
   |cons Wj pp=>
    rw[hp] at e
    obtain⟨ex,b2,fH,ow0,j1,j2,j3,j4,hM,j5,j6,j7⟩:=oM h hr
    rw[j1] at e
    simp only[Option.some.injEq,Prod.mk.injEq] at e
    rw[←hp] at e
    obtain⟨rfl,rfl⟩:=e
    obtain⟨r3,ex3,q1,q2,q3⟩:=ES hb
    rw[j1] at q1
    injection q1 with q1 RF
    subst q1 RF
    rw[j3] at q3
    injection q3 with q3
    subst q3
    obtain⟨cs2,fp,k1,k2,k3,k4⟩:=Vc p hM j2 hr.val j3 hk
    rw[hc] at k1
    injection k1 with k1
    subst k1
    rw[JF q2] at k3
    -- the ownership without what is taken
    have agN:s<S.length:=kT (by rw[j1];exact λe=>by cases e)
    let bU:Nat->Option Nat:=λg=>open Classical in if fp g then some S.length else σ g
    have RL:∀ g i,bU g=some i->∃ k,σ g=some k:=by
     intro g i hg
     simp only[bU] at hg
     split at hg
     ·exact⟨s,k2 g (by assumption)⟩
     ·exact⟨i,hg⟩
    have RM:∀ g i,σ g=some i->¬fp g->bU g=some i:=by
     intro g i hg hn
     simp only[bU,if_neg hn,hg]
    have cP:aU w w (Av σ Z) (Av bU Z):=⟨λ_ _ _=>rfl,λg _ hg=>by
     rcases hg with⟨i,hg⟩ |hg
     ·exact .inl (RL g i hg)
     ·exact .inr hg⟩
    have agO:pO σ bU S.length fp:=by
     refine⟨λg hg=>⟨s,agN,k2 g hg⟩,λg hg=>⟨_,Nat.le_refl _,by simp only[bU,if_pos hg]⟩,λg i hg hi=>?_,λg=>⟨λ⟨i,hg⟩=>RL g i hg,λ⟨i,hg⟩=>?_⟩,λg i hg hi=>RM g i hg (λhx=>?_)⟩
     ·simp only[bU] at hg
      split at hg
      ·injection hg with hg;omega
      ·exact hg
     ·simp only[bU]
      split
      ·exact⟨_,rfl⟩
      ·exact⟨i,hg⟩
     ·have:=k2 g hx
      rw[hg] at this
      injection this with this
      omega
    refine⟨bU,cs,fp,?_,by rw[j4];exact hm,k3,agO,by simp[St.weaken,St.cover]⟩
    have hlen:((S.weaken s).cover s p).length=S.length:=by simp[St.weaken,St.cover]
    have Qj:s<S.length:=by
     rcases Nat.lt_or_ge s S.length with hl |hl
     ·exact hl
     ·unfold St.at at j1
      rw[List.getD_eq_getElem?_getD,List.getElem?_eq_none hl] at j1
      cases j1
    have OG:St.at (((S.weaken s).cover s p).set s (.v r (ex++[p]))) s=.v r (ex++[p]):=by rw[eH,if_pos ⟨rfl,by rw[hlen];exact Qj⟩]
    have yE:∀ i,i≠s->St.at (((S.weaken s).cover s p).set s (.v r (ex++[p]))) i=(match (bif (S.at i).kS s then AV.dead else S.at i) with
      | .ad t s' q=>bif Nat.beq s' s&&under p q then .dead else .ad t s' q
      |a=>a):=by
     intro i hi
     rw[eH,if_neg (λe=>hi e.1),RJ,s6]
    refine⟨by simp only[List.length_set,hlen];exact h.len,h.defers,h.fr,λg i hg=>(RL g i hg).elim λk hk=>h.new g k hk,λg i hg=>(RL g i hg).elim λk hk=>h.lt g k hk,λg hg=>⟨?_,(h.old g hg).2⟩,λi=>?_⟩
    ·simp only[bU]
     split
     ·rename_i hx
      have:=k2 g hx
      rw[(h.old g hg).1] at this
      cases this
     ·exact(h.old g hg).1
    ·by_cases Vd:i=s
     ·subst Vd
      rw[OG]
      exact⟨dw,hr.mat,aG cP _ (λ_ _ _=>rfl) (λg hg _=>RM g _ hg.1 hg.2) (λ_ h=>h) k4⟩
     ·rw[yE i Vd]
      cases Eu:(S.at i).kS s with
      |true=>trivial
      |false=>
       simp only[cond_false]
       have hi:=h.holds i
       have base:Holds w (Av bU Z) H (cn a) S (λg=>bU g=some i) (S.at i) (cn a i):=
        hi.kept cP (λg hg _=>⟨rfl,RM g i hg (λhx=>Vd (by have:=k2 g hx;rw[hg] at this;injection this))⟩) (λs' _=>⟨λ_ _ h=>h,rfl,_,h.holds s',λ_ _ _=>rfl⟩)
       have hSv:∀ j r' Qi,j≠s->S.at j=.v r' Qi->St.at (((S.weaken s).cover s p).set s (.v r (ex++[p]))) j=.v r' Qi:=by
        intro j r' Qi hj hv
        rw[yE j hj,hv]
        simp[AV.kS]
       cases nm:S.at i with
       |v b3 ex3=>
        rw[nm] at base
        obtain⟨c3,l1,l2⟩:=base
        exact⟨c3,l1,l2⟩
       |Ih l=>
        rw[nm] at base
        exact base
       |ad t' s' q=>
        rw[nm] at base Eu
        simp only
        cases anH:(Nat.beq s' s&&under p q) with
        |true=>trivial
        |false=>
         simp only[cond_false]
         refine pV j1 hSv OG Eu (λt2 q2 e2=>?_) base (λ_ _ e=>by cases e) (λ_ e=>by cases e)
         injection e2 with _ e3 e4
         subst e3 e4
         simpa using anH
       |dead=>trivial
       |undef=>rw[nm] at base;exact base
       |al t' s' q=>
        rw[nm] at base Eu
        exact pV j1 hSv OG Eu (λt2 q2 e2=>by cases e2) base (λ_ _ e=>by cases e) (λ_ e=>by cases e)
       |cut t' s' q lo G0=>
        rw[nm] at base Eu
        exact pV j1 hSv OG Eu (λt2 q2 e2=>by cases e2) base (λ_ _ e=>by cases e) (λ_ e=>by cases e)
       |vY f fc=>
        rw[nm] at base Eu
        exact pV j1 hSv OG Eu (λt2 q2 e2=>by cases e2) base (λ_ _ e=>by cases e) (λ_ e=>by cases e)
  cases e
 |cut t s p lo hi=>
  cases p with
  |cons _ _=>simp[St.jL] at e
  |nil=>
  simp only[St.jL] at e;obtain⟨r,dw,t',X,n,c,hr,rfl,hc,Yg,Rq,hv⟩:=hh;split at e
  ·rename_i t2 T2 tag me xs hb;cases anI:Nat.beq lo 0 with
   |false=>rw[anI] at e;cases e
   |true=>
   rw[anI] at e;have hl0:=Nat.eq_of_beq_eq_true anI;subst hl0;simp only[cond_true,Option.some.injEq,Prod.mk.injEq] at e;obtain⟨rfl,rfl⟩:=e;obtain⟨LN,fp,GL,hM⟩:=gy h hr hc hb;injection LN with LN;subst LN;simp only[M] at hM;rcases hM with⟨hn,_⟩ |⟨hk,_⟩ |⟨T3,atQ,me3,X3,c3,e3,e4,hcc,afc,hM⟩
   ·simp at hn
   ·simp[Md.b5] at hk
   injection e3 with e3 e3' asS;subst e3 e3' asS;simp only[List.cons.injEq,Value.slice.injEq,and_true] at e4;obtain⟨rfl,hn,rfl⟩:=e4;have hv':a.eval x=.slice X hi c:=by
    rw[hv];have:(if c=0 then X else X.map λx=>x.add (0*Ty.size t2))=X:=by
     split
     ·rfl
     cases X with
     |none=>rfl
     |some ad=>simp[Addr.add]
    rw[this];simp
   have hlen:(List.take hi xs).length=hi:=(by rw[List.length_take];omega);obtain⟨ex0,hs0,_⟩:=hr.at_;refine⟨_,[.slice X hi c],fp,h.vX s,by simp[ah,isAgg,hv'],?_,pO.vX σ (kT (by rw[hs0];exact λe=>by cases e)) GL,bK _ _ _⟩;simp only[M];refine .inr (.inr ⟨T2,none,me,X,c,rfl,by rw[hlen],by rw[hlen];omega,λh hh=>(by cases hh),?_⟩);rcases hM with⟨rfl,rfl⟩ |⟨g,cur,τ,rfl,hg,hw,pL,hm,hj⟩
   ·left;simp
   right;refine⟨g,cur,τ,rfl,hg,hw,pL,hm,λj Ub=>?_⟩;rw[hlen] at Ub;have:=hj j (by omega);rw[List.getElem_take];exact this
  cases e
 |_=>simp[St.jL] at e
def ob (σ:Nat->Option Nat) (dst:Option Nat) (ow:Nat->Prop) (g:Nat):Option Nat:=open Classical in if ow g then dst else release σ dst g
theorem a6.adz (h:a6 σ w0 W0 Z H S a w) {av:AV} {ow:Nat->Prop} (pL:w.heap.size<=w'.heap.size) (tQ:∀ g,g<w.heap.size->(∀ i,S.length<=i->σ g≠some i)->w'.heap[g]?=w.heap[g]?) (Eu:Fr w0 W0 w') (GL:∀ g,ow g->g<w'.heap.size/\((∃ i,S.length<=i/\σ g=some i)∨w.heap.size<=g)) (hH:∀ d,dst=some d->(∀ g,ow g->ob σ dst ow g=some d)->(∀ g,Av (ob σ dst ow) Z g->Av σ Z g∨ow g)->Holds w' (Av (ob σ dst ow) Z) H (cn (a.put dst v)) (S.put dst av) (λg=>ob σ dst ow g=some d) av v): a6 (ob σ dst ow) w0 W0 Z H (S.put dst av) (a.put dst v) w':=by
 have hw0:w0.heap.size<=w.heap.size:=h.fr.size;have nm:∀ g i,ob σ dst ow g=some i->(ow g/\dst=some i)∨(¬ow g/\σ g=some i/\dst≠some i):=λg i hg=>by
  unfold ob at hg;split at hg
  ·exact .inl ⟨by assumption,hg⟩
  exact .inr ⟨by assumption,lv hg⟩
 have hAv:∀ g,Av (ob σ dst ow) Z g->Av σ Z g∨ow g:=λg hg=>by
  rcases hg with⟨i,hg⟩ |hg
  ·rcases nm g i hg with⟨h1,_⟩ |⟨_,h1,_⟩
   ·exact .inr h1
   exact .inl (.inl ⟨i,h1⟩)
  exact .inl (.inr hg)
 have cP:aU w w' (Av σ Z) (Av (ob σ dst ow) Z):=⟨λg hn hg=>tQ g hg (λi _ hi=>hn (.inl ⟨i,hi⟩)),λg hg hx=>by
  rcases hAv g hx with h1 |h1
  ·exact h1
  ·rcases(GL g h1).2 with⟨i,_,hi⟩ |h2
   ·exact .inl ⟨i,hi⟩
   ·omega⟩
 refine h.put cP Eu (λg i hg=>?_) (λg hg=>?_) (λi g hi hd hg=>⟨tQ g (h.lt g i hg) (λj hj Ew=>by rw[hg] at Ew;injection Ew with Ew;omega),?_⟩) (λd hd hl _=>hH d hd (λg hg=>by unfold ob;rw[if_pos hg];exact hd) hAv)
 ·rcases nm g i hg with⟨h1,_⟩ |⟨_,h1,_⟩
  ·rcases GL g h1 with⟨h2,⟨j,_,hj⟩ |h3⟩
   ·exact⟨h.new g j hj,h2⟩
   exact⟨.inl (by omega),h2⟩
  exact⟨h.new g i h1,by have:=h.lt g i h1;omega⟩
 ·obtain⟨h1,h2⟩:=h.old g hg;unfold ob;split
  ·rename_i hx;rcases(GL g hx).2 with⟨i,_,hi⟩ |h3
   ·rw[h1] at hi;cases hi
   omega
  unfold release;split
  ·rfl
  exact h1
 have hn: ¬ow g:=λhx=>by
  rcases(GL g hx).2 with⟨j,hj,Ew⟩ |h3
  ·rw[hg] at Ew;injection Ew with Ew;omega
  have:=h.lt g i hg;omega
 unfold ob;rw[if_neg hn];exact zP hd hg
theorem a6.amC (h:a6 σ w0 W0 Z H S a w) {b:TV} {cs:List Value} {ow:Nat->Prop} {A':Nat->Prop} (pL:w.heap.size<=w'.heap.size) (tQ:∀ g,g<w.heap.size->(∀ i,S.length<=i->σ g≠some i)->w'.heap[g]?=w.heap[g]?) (Eu:Fr w0 W0 w') (GL:∀ g,ow g->g<w'.heap.size/\((∃ i,S.length<=i/\σ g=some i)∨w.heap.size<=g)) (hA:∀ g,g<w'.heap.size->Av σ Z g∨ow g->A' g) (hm:ah b.t v cs) (hM:M w' A' H b.t b.m b.x cs ow []): a6 (ob σ dst ow) w0 W0 Z H (S.put dst (.v b [])) (a.put dst v) w':=h.adz pL tQ Eu GL λd _ h1 h2=>⟨cs,hm,aG ⟨λ_ _ _=>rfl,λg hg hx=>hA g hg (h2 g hx)⟩ _ (λ_ _ _=>rfl) (λg hg _=>h1 g hg) (λ_ h=>h) hM⟩
theorem a6.Wn (h:a6 σ w0 W0 Z H S a w) {b:TV} {cs:List Value} {ow:Nat->Prop} {A':Nat->Prop} (tQ:∀ g,g<w.heap.size->w'.heap[g]?=w.heap[g]?) (Eu:Fr w0 W0 w') (GL:∀ g,ow g->g<w'.heap.size/\((∃ i,S.length<=i/\σ g=some i)∨w.heap.size<=g)) (hA:∀ g,g<w'.heap.size->Av σ Z g∨ow g->A' g) (hm:ah b.t v cs) (hM:M w' A' H b.t b.m b.x cs ow []): a6 (ob σ dst ow) w0 W0 Z H (S.put dst (.v b [])) (a.put dst v) w':=by
 refine h.amC ?_ (λg hg _=>tQ g hg) Eu GL hA hm hM;rcases Nat.eq_zero_or_pos w.heap.size with h0 |h0
 ·omega
 have:=tQ (w.heap.size - 1) (by omega);rw[Array.getElem?_eq_getElem (show w.heap.size - 1<w.heap.size by omega)] at this;have:=bh this;omega
end Go.Pv
namespace Go.Pv
open List Int IntKind
variable {P:Program} {w w':World} {A A' Wr:Nat->Prop} {H:Nat->Value} {tm FP:Nat->Value} {S S' S1:St} {σ bU:Nat->Option Nat} {w0:World} {W0 Z:Nat->Prop} {a:Act} {own:Nat->Prop} {v:Value} {Θ:fA} {dst:Option Nat}
theorem qu:∀ (t:Ty),s5 t=true->K w A t t.z (zc t)
 | .int k,_=>by simp[K,zc,Ty.z]
 | .bool,_=>by simp[K,zc,Ty.z]
 | .str,_=>by simp[K,zc,Ty.z]
 | .unit,_=>by simp[K,zc]
 | .sl t,_=>by simp only[K,zc,Ty.z];exact⟨none,0,rfl,Nat.le_refl _,λh=>absurd h (Nat.lt_irrefl _)⟩
 | .pair a b,h=>by simp only[s5,Bool.and_eq_true] at h;simp only[K,zc,Ty.z];exact⟨_,_,rfl,qu a h.1,qu b h.2⟩
 | .ptr t,h=>by simp[s5] at h
 | .arr n t,h=>by simp only[s5] at h;simp only[K,zc,Ty.z];refine⟨List.replicate n (zc t),rfl,by simp,by simp,λj h1 h2=>?_⟩;simp only[List.getElem_replicate];exact qu t h
 | .mp,h=>by simp[s5] at h
theorem Wo {t:Ty} {x:t.I} {m:Md} {cs:List Value} {ow:Nat->Prop} (h:M w A H t m x cs (λ_=>False) []):M w A H t m x cs ow []:=aG (aU.refl _ _) t (λ_ _ _=>rfl) (λ_ h _=>h.elim) (λ_ h=>h) h
theorem RN:∀ (t:Ty) {m:Md},Ki t m=true->M w A H t m t.z (zc t) (λ_=>False) []
 | .pair a b,.p ma mb,h=>by
  simp only[Ki,Bool.or_eq_true,Bool.and_eq_true] at h;rcases h with h |h
  ·simp only[M];exact .inr (.inr ⟨ma,mb,zc a,zc b,λ_=>True,rfl,rfl,Wo (RN a h.1),Wo (RN b h.2)⟩)
  exact CG (by simp[Md.b5,h.1.1.1,h.1.1.2]) (by simp only[K,zc,Ty.z];exact⟨_,_,rfl,qu a h.1.2,qu b h.2⟩)
 | .sl t,.o T none me,_=>by simp only[M];exact .inr (.inr ⟨T,none,me,none,0,rfl,rfl,Nat.le_refl _,λh hh=>(by cases hh),.inl ⟨rfl,rfl⟩⟩)
 | .pair a b,.k,h=>by simp only[Ki,Bool.and_eq_true] at h;exact CG h.1 (qu _ h.2)
 | .pair a b,.o ..,h=>by simp[Ki,Md.b5] at h
 | .sl t,.k,h=>by simp only[Ki,Bool.and_eq_true] at h;exact CG h.1 (qu _ h.2)
 | .sl t,.o _ (some _) _,h=>by simp[Ki,Md.b5] at h
 | .sl t,.p a b,h=>by simp only[Ki,Bool.and_eq_true] at h;exact CG h.1 (qu _ h.2)
 | .int k,m,h=>by have h:(m.b5&&s5 (.int k))=true:=(by cases m<;>exact h);simp only[Bool.and_eq_true] at h;exact CG h.1 (qu _ h.2)
 | .bool,m,h=>by have h:(m.b5&&s5 .bool)=true:=(by cases m<;>exact h);simp only[Bool.and_eq_true] at h;exact CG h.1 (qu _ h.2)
 | .str,m,h=>by have h:(m.b5&&s5 .str)=true:=(by cases m<;>exact h);simp only[Bool.and_eq_true] at h;exact CG h.1 (qu _ h.2)
 | .unit,m,h=>by have h:(m.b5&&s5 .unit)=true:=(by cases m<;>exact h);simp only[Bool.and_eq_true] at h;exact CG h.1 (qu _ h.2)
 | .ptr t,m,h=>by have h:(m.b5&&s5 (.ptr t))=true:=(by cases m<;>exact h);simp[s5] at h
 | .arr n t,m,h=>by have h:(m.b5&&s5 (.arr n t))=true:=(by cases m<;>exact h);simp only[Bool.and_eq_true] at h;exact CG h.1 (qu _ h.2)
 | .mp,m,h=>by have h:(m.b5&&s5 .mp)=true:=(by cases m<;>exact h);simp[s5] at h
theorem OH (hT:eA P Θ=true) {T:TypeId} {z:TV} (h:GO Θ T=some z): ∃ i inf zv,Θ.find T=some i/\i.ty=z.t/\z.x=z.t.z/\Ki z.t z.m=true/\P.info? T=some inf/\inf.size=z.t.size/\inf.zero=some zv/\ah z.t zv (zc z.t)/\inf.bytes<=32*z.t.size/\inf.bytes<=256:=by
 unfold GO at h;split at h
 ·rename_i i hi;cases hz:Ki i.ty (X7 Θ 9 T) with
  |false=>rw[hz] at h;cases h
  |true=>rw[hz] at h;simp only[cond_true,Option.some.injEq] at h;subst h;obtain⟨⟨_,inf,zv,h1,h2,h3,h4,h5,h6,h7⟩,_,rfl⟩:=fJ hT hi;exact⟨i,inf,zv,hi,rfl,rfl,hz,h1,h2,h6,h7,h3,h4⟩
 cases h
theorem Fr.alloc (h:Fr w0 W0 w) (o:Obj):Fr w0 W0 (w.alloc o):=by
 refine⟨h.os,h.tape,h.output,?_,λg hg hn=>?_⟩
 ·have:=h.size;simp only[World.alloc,Array.size_push];omega
 rw[heap_alloc_old w o g (by have:=h.size;omega)];exact h.block g hg hn
theorem sz {t:Ty} {v:Value} {cs:List Value} (h:ah t v cs) (h1:∀ u∈cs,u.oneCell'=true):v.cells=cs.toArray:=by have:=Wa h h1;rw[←this]
theorem YB {t:Ty} {m:Md} {x:t.I} {cs:List Value} {ow:Nat->Prop} (T:TypeId) (hM:M w A H t m x cs ow []) (du:∀ g,ow g->g<w.heap.size): M (w.alloc (.cells cs.toArray T)) (λg=>A g∨w.heap.size<=g) H (.ptr t) (.o T none m) x [.pointer (some ⟨w.heap.size,0,none⟩)] (λg=>ow g∨g=w.heap.size) []:=by
 simp only[M];refine .inr (.inr ⟨T,none,m,w.heap.size,cs.toArray,rfl,rfl,λh hh=>(by cases hh),.inr rfl,heap_alloc_new w _,?_⟩);refine aG (w:=w) ⟨λg _ hg=>heap_alloc_old w _ g hg,λg hg hx=>?_⟩ t (λg hg hl=>heap_alloc_old w _ g hl) (λg hg hl=>⟨.inl hg,by omega⟩) (λ_ h=>(by simp at h)) hM;rcases hx with hx |hx
 ·exact hx
 omega
def L9 (P:Program) (w0:World) (W0 Z:Nat->Prop) (H:Nat->Value) (S':St) (a:Act) (dst:Option Nat) (w:World) (s:Sem Next):Prop:=∃ w' v,s.run P w=.ok (.value v) w'/\Ext w w'/\Rel w0 W0 Z H S' (a.put dst v) w'
theorem L9.goes {s:Sem Next} (h:L9 P w0 W0 Z H S' a dst w s):RB P w0 W0 Z H S' a dst w s:=by obtain⟨w',v,h1,_,h2⟩:=h;exact⟨w',v,.inl h1,h2⟩
theorem rq.Qh {s:Sem Next} (h:rq P w0 W0 Z H S' a dst w s):L9 P w0 W0 Z H S' a dst w s:=by obtain⟨v,h1,h2⟩:=h;exact⟨w,v,h1 w (Ext.refl w),Ext.refl w,h2⟩
theorem agP (hT:eA P Θ=true) (h:a6 σ w0 W0 Z H S a w) {hn:Hn} {o:Oper} {T:TypeId} (ho:o.op=.alloc T) (e:EC Θ hn S o.dst T=some (true,S')):L9 P w0 W0 Z H S' a o.dst w (execOp a.eval o):=by
 unfold EC at e;split at e
 ·rename_i z hz;cases hf:Ki z.t (hn.find o.dst z.m) with
  |false=>rw[hf] at e;cases e
  |true=>
  rw[hf] at e;simp only[cond_true,Option.some.injEq,Prod.mk.injEq,true_and] at e;subst e;obtain⟨i,inf,zv,_,_,_,_,h1,h2,h3,h4,_⟩:=OH hT hz;have hM:M w (Av σ Z) H z.t (hn.find o.dst z.m) z.t.z (zc z.t) (λ_=>False) []:=RN z.t hf;have anJ:=YB T hM (λ_ h=>h.elim);refine⟨w.alloc (.cells (zc z.t).toArray T),.pointer (some ⟨w.heap.size,0,none⟩),?_,λg hg=>heap_alloc_old w _ g hg,_,h.Wn (b:=⟨.ptr z.t,.o T none (hn.find o.dst z.m),z.t.z⟩) (cs:=[.pointer (some ⟨w.heap.size,0,none⟩)]) (λg hg=>heap_alloc_old w _ g hg) (h.fr.alloc _) (λg hg=>?_) (λg hg hx=>?_) (by simp[ah,isAgg]) anJ⟩
  ·simp[execOp,ho,Instr.alloc,zeroValue,typeInfo,h1,h3,newVar,newRow,sz h4 (lQ _ hM).2]
  ·rcases hg with hg |rfl
   ·exact hg.elim
   exact⟨by simp only[World.alloc,Array.size_push];omega,.inr (Nat.le_refl _)⟩
  rcases hx with hx |hx |rfl
  ·exact .inl hx
  ·exact hx.elim
  exact .inr (Nat.le_refl _)
 cases e
theorem De {b:TV} {cs:List Value} {ow:Nat->Prop} {s:Sem Next} {n:Nat} (h:a6 bU w0 W0 Z H S1 a w) (hk:pO σ bU n ow) (hn:S1.length=n) (hr:∀ w2,Ext w w2->s.run P w2=.ok (.value v) w2) (hm:ah b.t v cs) (hM:M w (Av σ Z) H b.t b.m b.x cs ow []): rq P w0 W0 Z H (S1.put dst (.v b [])) a dst w s:=by
 refine⟨v,hr,_,h.Wn (b:=b) (cs:=cs) (λ_ _=>rfl) h.fr (λg hg=>?_) (λg hg hx=>?_) hm hM⟩
 ·obtain⟨i,hi,bq⟩:=hk.now g hg;exact⟨h.lt g i bq,.inl ⟨i,by omega,bq⟩⟩
 rcases hx with hx |hx
 ·exact hk.Av.1 hx
 obtain⟨i,hi,bq⟩:=hk.YA g hx;exact .inl ⟨i,bq⟩
theorem anK (hT:eA P Θ=true) (h:a6 σ w0 W0 Z H S a w) {o:Oper} {T:TypeId} {x:Operand} (ho:o.op=.box T x) (e:agb Θ S o.dst T x=some (true,S')):L9 P w0 W0 Z H S' a o.dst w (execOp a.eval o):=by
 unfold agb St.take at e;split at e
 ·rename_i b S1 hb;split at hb
  ·rename_i av jU;obtain⟨bU,cs,ow,h1,hm,hM,hk,hn⟩:=lV h jU hb;cases hc:Θ.is T b.t with
   |false=>rw[hc] at e;cases e
   |true=>
   rw[hc] at e;simp only[cond_true,Option.some.injEq,Prod.mk.injEq,true_and] at e;subst e;have du:∀ g,ow g->g<w.heap.size:=λg hg=>(by obtain⟨i,_,hi⟩:=hk.YA g hg;exact h.lt g i hi);have anJ:=YB T hM du;refine⟨w.alloc (.cells cs.toArray T),.pointer (some ⟨w.heap.size,0,none⟩),?_,λg hg=>heap_alloc_old w _ g hg,_,h1.Wn (b:=⟨.ptr b.t,.o T none b.m,b.x⟩) (cs:=[.pointer (some ⟨w.heap.size,0,none⟩)]) (λg hg=>heap_alloc_old w _ g hg) (h1.fr.alloc _) (λg hg=>?_) (λg hg hx=>?_) (by simp[ah,isAgg]) anJ⟩
   ·simp[execOp,ho,Instr.box,newVar,newRow,sz hm (lQ _ hM).2]
   ·rcases hg with hg |rfl
    ·obtain⟨i,hi,bq⟩:=hk.now g hg;have:=du g hg;exact⟨by simp only[World.alloc,Array.size_push];omega,.inl ⟨i,by omega,bq⟩⟩
    exact⟨by simp only[World.alloc,Array.size_push];omega,.inr (Nat.le_refl _)⟩
   rcases hx with hx |hx |rfl
   ·exact .inl (hk.Av.1 hx)
   ·obtain⟨i,_,hi⟩:=hk.YA g hx;exact .inl (.inl ⟨i,hi⟩)
   exact .inr (Nat.le_refl _)
  cases hb
 cases e
theorem rq.still {s:Sem Next} (hr:∀ w2,s.run P w2=.ok (.value v) w2) (h:rq P w0 W0 Z H S' a dst w s):wa P w0 W0 Z H S' a dst w s:=by obtain⟨v',h1,h2⟩:=h;have:=(h1 w (Ext.refl w)).symm.trans (hr w);injection this with this;injection this with this;subst this;exact⟨_,hr,h2⟩
end Go.Pv
namespace Go.Pv
open List Int IntKind
variable {P:Program} {w w':World} {A A' Wr:Nat->Prop} {H:Nat->Value} {tm FP:Nat->Value} {S S' S1:St} {σ bU:Nat->Option Nat} {w0:World} {W0 Z:Nat->Prop} {a:Act} {own:Nat->Prop} {v:Value} {Θ:fA} {dst:Option Nat}
theorem Ip:∀ (p:Path) {t:Ty} {m:Md} {x:t.I} {b b0:TV} {r:Md×t.I},pR b p t m x=some r->a7 p t m x=some b0->b.t=b0.t
 |[],t,m,x,b,b0,r,h,hg=>by
  simp only[a7,Option.some.injEq] at hg;subst hg;simp only[pR] at h;split at h
  ·assumption
  cases h
 | .deref::p,.ptr t,.o T tag me,x,b,b0,r,h,hg=>by
  simp only[pR] at h;simp only[a7] at hg;split at h
  ·rename_i r1 h1;exact Ip p h1 hg
  cases h
 | .fst::p,.pair t u,m,x,b,b0,r,h,hg=>by
  simp only[pR] at h;simp only[a7] at hg;split at h
  ·rename_i r1 h1;exact Ip p h1 hg
  cases h
 | .snd::p,.pair t u,m,x,b,b0,r,h,hg=>by
  simp only[pR] at h;simp only[a7] at hg;split at h
  ·rename_i r1 h1;exact Ip p h1 hg
  cases h
 | .idx i::p,.sl t,.o T tag me,xs,b,b0,r,h,hg=>by obtain⟨r1,h1,_⟩:=Ra h;simp only[a7] at hg;exact Ip p h1 hg
theorem tY:∀ (q:Path) {t:Ty} {x y:t.I},aI q=true->valid q t x->valid q t y
 |[],_,_,_,_,_=>trivial
 | .fst::q,.pair a b,x,y,h,hv=>by simp only[valid] at hv ⊢;exact tY q (by simpa[aI] using h) hv
 | .snd::q,.pair a b,x,y,h,hv=>by simp only[valid] at hv ⊢;exact tY q (by simpa[aI] using h) hv
theorem oN:∀ (q:Path),depth q=0->aI q=true
 |[],_=>rfl
 | .fst::q,h=>by simp only[aI];exact oN q (by simpa[depth] using h)
 | .snd::q,h=>by simp only[aI];exact oN q (by simpa[depth] using h)
 | .deref::q,h=>by simp[depth] at h
 | .idx i::q,h=>by simp[depth] at h
theorem kZ:∀ (q:Path) {t:Ty} {cs fH:List Value} {l:Option (Nat×Nat)},aI q=true->addrAt w q t cs l=addrAt w' q t fH l
 |[],_,_,_,_,_=>rfl
 | .fst::q,.pair a b,cs,fH,l,h=>by simp only[addrAt];exact kZ q (by simpa[aI] using h)
 | .snd::q,.pair a b,cs,fH,l,h=>by simp only[addrAt];exact kZ q (by simpa[aI] using h)
 | .fst::q,.int _,_,_,_,_=>by simp[addrAt]
 | .fst::q,.bool,_,_,_,_=>by simp[addrAt]
 | .fst::q,.str,_,_,_,_=>by simp[addrAt]
 | .fst::q,.sl _,_,_,_,_=>by simp[addrAt]
 | .fst::q,.ptr _,_,_,_,_=>by simp[addrAt]
 | .fst::q,.unit,_,_,_,_=>by simp[addrAt]
 | .fst::q,.arr _ _,_,_,_,_=>by simp[addrAt]
 | .fst::q,.mp,_,_,_,_=>by simp[addrAt]
 | .snd::q,.int _,_,_,_,_=>by simp[addrAt]
 | .snd::q,.bool,_,_,_,_=>by simp[addrAt]
 | .snd::q,.str,_,_,_,_=>by simp[addrAt]
 | .snd::q,.sl _,_,_,_,_=>by simp[addrAt]
 | .snd::q,.ptr _,_,_,_,_=>by simp[addrAt]
 | .snd::q,.unit,_,_,_,_=>by simp[addrAt]
 | .snd::q,.arr _ _,_,_,_,_=>by simp[addrAt]
 | .snd::q,.mp,_,_,_,_=>by simp[addrAt]
theorem Ku:∀ (q p:Path) {t:Ty} {m:Md} {x:t.I} {b:TV} {r:Md×t.I},pR b p t m x=some r->aI p=false->depth q<=1->valid q t x->valid q t r.2
 |[],_,_,_,_,_,_,_,_,_,_=>trivial
 | .deref::q,p,.ptr t,m,x,b,r,h,hp,hd,hv=>by simp only[valid] at hv ⊢;exact tY q (oN q (by simp[depth] at hd;omega)) hv
 | .idx i::q,p,.sl t,m,xs,b,r,h,hp,hd,hv=>by
  simp only[valid] at hv ⊢;refine⟨?_,tY q (oN q (by simp[depth] at hd;omega)) hv.2⟩;cases p with
  |nil=>simp[aI] at hp
  |cons s p=>
  cases s<;>cases m<;>simp[pR] at h;rename_i j T tag me;have h':pR b (.idx j::p) (.sl t) (.o T tag me) xs=some r:=by simp only[pR];exact h
  obtain⟨r1,_,_,rfl⟩:=Ra h';simpa using hv.1
 | .fst::q,p,.pair t u,m,x,b,r,h,hp,hd,hv=>by
  simp only[valid] at hv ⊢;cases p with
  |nil=>simp[aI] at hp
  |cons s p=>
  cases s<;>simp only[pR,reduceCtorEq] at h
  ·split at h
   ·rename_i r1 h1;injection h with h;subst h;exact Ku q p h1 (by simpa[aI] using hp) (by simpa[depth] using hd) hv
   cases h
  split at h
  ·rename_i r1 h1;injection h with h;subst h;exact hv
  cases h
 | .snd::q,p,.pair t u,m,x,b,r,h,hp,hd,hv=>by
  simp only[valid] at hv ⊢;cases p with
  |nil=>simp[aI] at hp
  |cons s p=>
  cases s<;>simp only[pR,reduceCtorEq] at h
  ·split at h
   ·rename_i r1 h1;injection h with h;subst h;exact hv
   cases h
  split at h
  ·rename_i r1 h1;injection h with h;subst h;exact Ku q p h1 (by simpa[aI] using hp) (by simpa[depth] using hd) hv
  cases h
theorem Df:∀ (q:Path) {t:Ty} {m:Md} {x:t.I} {cs:List Value} {ow:Nat->Prop} {hs:List Path} {l:Option (Nat×Nat)} {g:Nat×Nat},M w' A' H t m x cs ow hs->open_ q hs->valid q t x->depth q<=1->addrAt w q t cs l=some g->addrAt w' q t cs l=some g
 |[],_,_,_,_,_,_,_,_,_,_,_,_,e=>e
 | .deref::q,.ptr t,m,x,cs,ow,hs,l,g0,h,ho,hv,hd,e=>by
  have hq:aI q=true:=oN q (by simp[depth] at hd;omega);simp only[M] at h;rcases h with⟨hn,_⟩ |⟨hk,h⟩ |⟨T,tag,me,g,cur,rfl,rfl,ht,FN,hw,h⟩
  ·exact absurd hn ho.not_nil
  ·simp only[K] at h;obtain⟨g,off,cur,T,fr,rfl,hng,hw,hl,h⟩:=h;simp only[addrAt,bH hw hl,Option.bind_some] at e ⊢;cases hr:rowAt w g off t.size with
   |none=>rw[hr] at e;cases e
   |some row=>rw[hr,Option.bind_some] at e;rw[←e];exact kZ q hq
  have pL:0+t.size<=cur.size:=(by rw[←(lQ t h).1];simp);simp only[addrAt,bH hw pL,Option.bind_some] at e ⊢;cases hr:rowAt w g 0 t.size with
  |none=>rw[hr] at e;cases e
  |some row=>rw[hr,Option.bind_some] at e;rw[←e];exact kZ q hq
 | .fst::q,.pair a b',m,x,cs,ow,hs,l,g0,h,ho,hv,hd,e=>by
  simp only[valid] at hv;simp only[M] at h;simp only[addrAt] at e ⊢;rcases h with⟨hn,_⟩ |⟨hk,h⟩ |⟨ma,mb,c0,c1,s,rfl,rfl,h0,h1⟩
  ·exact absurd hn ho.not_nil
  ·simp only[K] at h;obtain⟨c0,c1,rfl,h0,h1⟩:=h;rw[←(xV a h0).1,List.take_left] at e ⊢;exact Df q (nu (H:=H) (ow:=λ_=>False) (hs:=sub .fst hs) a h0) ho.sub hv (by simpa[depth] using hd) e
  rw[←(lQ a h0).1,List.take_left] at e ⊢;exact Df q h0 ho.sub hv (by simpa[depth] using hd) e
 | .snd::q,.pair a b',m,x,cs,ow,hs,l,g0,h,ho,hv,hd,e=>by
  simp only[valid] at hv;simp only[M] at h;simp only[addrAt] at e ⊢;rcases h with⟨hn,_⟩ |⟨hk,h⟩ |⟨ma,mb,c0,c1,s,rfl,rfl,h0,h1⟩
  ·exact absurd hn ho.not_nil
  ·simp only[K] at h;obtain⟨c0,c1,rfl,h0,h1⟩:=h;rw[←(xV a h0).1,List.drop_left] at e ⊢;exact Df q (nu (H:=H) (ow:=λ_=>False) (hs:=sub .snd hs) b' h1) ho.sub hv (by simpa[depth] using hd) e
  rw[←(lQ a h0).1,List.drop_left] at e ⊢;exact Df q h1 ho.sub hv (by simpa[depth] using hd) e
 | .idx i::q,.sl t,m,xs,cs,ow,hs,l,g0,h,ho,hv,hd,e=>by
  have hq:aI q=true:=oN q (by simp[depth] at hd;omega);simp only[valid] at hv;obtain⟨hi,hv⟩:=hv;simp only[M] at h;rcases h with⟨hn,_⟩ |⟨hk,h⟩ |⟨T,tag,me,X,c,rfl,rfl,hc,ht,h⟩
  ·exact absurd hn ho.not_nil
  ·simp only[K] at h;obtain⟨X,c,rfl,hc,h⟩:=h;obtain⟨g,off,cur,T,fr,rfl,hng,hw,hl,h⟩:=h (by omega);have hbound:off+i*t.size+t.size<=cur.size:=by have:=Nat.mul_le_mul_right t.size (show i+1<=xs.length from hi);rw[Nat.add_mul,Nat.one_mul] at this;omega
   simp only[addrAt,bH hw hbound,Option.bind_some] at e ⊢;cases hr:rowAt w g (off+i*t.size) t.size with
   |none=>rw[hr] at e;cases e
   |some row=>rw[hr,Option.bind_some] at e;rw[←e];exact kZ q hq
  rcases h with⟨rfl,_⟩ |⟨g,cur,τ,rfl,FN,hw,pL,hm,h⟩
  ·simp at hi
  have hbound:0+i*t.size+t.size<=cur.size:=(by have h1:=Nat.mul_le_mul_right t.size (show i+1<=xs.length from hi);have h2:=Nat.mul_le_mul_right t.size hc;rw[Nat.add_mul,Nat.one_mul] at h1;omega);simp only[addrAt,bH hw hbound,Option.bind_some] at e ⊢;cases hr:rowAt w g (0+i*t.size) t.size with
  |none=>rw[hr] at e;cases e
  |some row=>rw[hr,Option.bind_some] at e;rw[←e];exact kZ q hq
theorem agQ:∀ (q p:Path) {t:Ty} {m:Md} {x:t.I} {b b1:TV} {r:Md×t.I},pR b p t m x=some r->a7 q t m x=some b1->∀ m',∃ b2,a7 q t m' r.2=some b2/\b2.t=b1.t:=by
 have key:∀ (q:Path) {t:Ty} {m m':Md} {x y:t.I} {b1:TV},a7 q t m x=some b1->∃ b2,a7 q t m' y=some b2/\b2.t=b1.t:=by
  intro q;induction q with
  |nil=>intro t m m' x y b1 h;simp only[a7,Option.some.injEq] at h;subst h;exact⟨_,rfl,rfl⟩
  |cons s q ih=>intro t m m' x y b1 h;cases s<;>cases t<;>simp only[a7,reduceCtorEq] at h ⊢;all_goals exact ih h
 intro q p t m x b b1 r _ h m';exact key q h
theorem JH (cP:aU w w' A A') {d:Nat} {r r':TV} {ex Qi:List Path} (LH:r'.t=r.t) (hd:S.at d=.v r ex) (hd':S'.at d=.v r' Qi) (hS:∀ i r1 ex1,i≠d->S.at i=.v r1 ex1->S'.at i=.v r1 ex1) (hM:∃ dw V',ah r.t (tm d) dw/\M w' A' H r'.t r'.m r'.x dw V' Qi) (hex:∀ q∈Qi,q∈ex) (tS:∀ q,depth q<=1->valid q r.t r.x->valid q r'.t r'.x) (mm:∀ q b1,a7 q r.t r.m r.x=some b1->∃ b2,a7 q r'.t r'.m r'.x=some b2/\b2.t=b1.t) (hk:∀ s,s≠d->∃ own,Holds w A H tm S own (S.at s) (tm s)/\∀ g,own g->g<w.heap.size->w'.heap[g]?=w.heap[g]?) {own V':Nat->Prop} (Dc:∀ g,own g->g<w.heap.size->w'.heap[g]?=w.heap[g]? /\V' g) {av:AV} {v:Value} (hf:av.kS d=false) (h:Holds w A H tm S own av v):Holds w' A' H tm S' V' av v:=by
 have adA:∀ s,s≠d->Kept w w' A H tm tm S S' s:=λs hs=>⟨λr1 ex1=>hS s r1 ex1 hs,rfl,hk s hs⟩;have anL:∀ {t:Ty} {q:Path} {r1:TV} {dw:List Value},depth q<=1->Ref tm S t d q r1 dw->r1=r/\Ref tm S' t d q r' dw:=by intro t q r1 dw hq hr;obtain⟨⟨ex1,h1,h2⟩,h3,⟨b1,h4,h5⟩,h6⟩:=hr;rw[hd] at h1;injection h1 with h1 h1';subst h1 h1';obtain⟨b2,k1,k2⟩:=mm q b1 h4;exact⟨rfl,⟨Qi,hd',λp hp=>h2 p (hex p hp)⟩,tS q hq h3,⟨b2,k1,k2.trans h5⟩,by rw[LH];exact h6⟩
 cases av with
 |dead=>trivial
 |undef=>exact h
 |v b ex1=>obtain⟨cs,h1,h2⟩:=h;exact⟨cs,h1,aG cP _ (λg hg hl=>(Dc g hg hl).1) (λg hg hl=>(Dc g hg hl).2) (λ_ h=>h) h2⟩
 |Ih l=>obtain⟨vs,τ,h1,h2,h3⟩:=h;refine⟨vs,τ,h1,h2,λj b hj=>?_⟩;obtain⟨u,cs,k1,k2,k3⟩:=h3 j b hj;exact⟨u,cs,k1,k2,aG cP _ (λg hg hl=>(Dc g hg.1 hl).1) (λg hg hl=>⟨(Dc g hg.1 hl).2,hg.2⟩) (λ_ h=>h) k3⟩
 |al t s p=>
  obtain⟨r1,dw,cs,hr,hc,hm⟩:=h;by_cases On:s=d
  ·subst On;cases p with
   |cons _ _=>simp[AV.kS] at hf
   |nil=>obtain⟨rfl,Ou⟩:=anL (by simp[depth]) hr;exact⟨r',dw,cs,Ou,hc,hm⟩
  obtain⟨h1,h2⟩:=hr.kept cP (adA s On);exact⟨r1,dw,cs,h1,by rw[(h2 none).1];exact hc,hm⟩
 |ad t s p=>
 obtain⟨r1,dw,g,off,hr,hc,hm⟩:=h;by_cases On:s=d
 ·subst On;have ap':depth p<=1:=by
   simp only[AV.kS,Nat.beq_refl,Bool.true_and] at hf;have: ¬ 2<=depth p:=λh2=>by rw[Nat.ble_eq_true_of_le h2] at hf;cases hf
   omega
  obtain⟨rfl,Ou⟩:=anL ap' hr;obtain⟨cs1,ako,m1,m2⟩:=hM;obtain rfl:=eG m1 hr.mat;obtain⟨ex1,e1,e2⟩:=Ou.at_;rw[hd'] at e1;injection e1 with _ e1;subst e1;refine⟨r',cs1,g,off,Ou,Df (w:=w) p m2 e2 Ou.val ap' (by rw[LH];exact hc),hm⟩
 obtain⟨h1,h2⟩:=hr.kept cP (adA s On);exact⟨r1,dw,g,off,h1,by rw[(h2 none).2];exact hc,hm⟩
 |cut t s p lo hi=>
 obtain⟨r1,dw,t',A1,n,c,hr,ht,hc,hm⟩:=h;by_cases On:s=d
 ·subst On;simp[AV.kS] at hf
 obtain⟨h1,h2⟩:=hr.kept cP (adA s On);exact⟨r1,dw,t',A1,n,c,h1,ht,by rw[(h2 none).1];exact hc,hm⟩
 |vY f fc=>
 obtain⟨vs,h1,h2,h3⟩:=h;refine⟨vs,h1,h2,λj c hj=>?_⟩;obtain⟨u,k1,k2⟩:=h3 j c hj;refine⟨u,k1,?_⟩;cases c with
 |kv b=>exact cv cP _ k2
 |pl t s p=>
 by_cases On:s=d
 ·subst On;obtain⟨r1,dw,cs,hr,hc,hm⟩:=k2;cases p with
  |cons _ _=>have wU:=List.any_eq_false.1 hf _ (List.mem_of_getElem? hj);simp at wU
  |nil=>obtain⟨rfl,Ou⟩:=anL (by simp[depth]) hr;exact⟨r',dw,cs,Ou,hc,hm⟩
 exact Ap.kept cP (λt1 s1 p1 e1=>by injection e1 with _ e1 _;subst e1;exact adA _ On) k2
theorem Wp:∀ (p h:Path),pre p h=true->∃ q,h=p++q
 |[],h,_=>⟨h,rfl⟩
 | .deref::p,.deref::h,e=>by obtain⟨q,rfl⟩:=Wp p h (by simpa[pre] using e);exact⟨q,rfl⟩
 | .fst::p,.fst::h,e=>by obtain⟨q,rfl⟩:=Wp p h (by simpa[pre] using e);exact⟨q,rfl⟩
 | .snd::p,.snd::h,e=>by obtain⟨q,rfl⟩:=Wp p h (by simpa[pre] using e);exact⟨q,rfl⟩
theorem take_at {x:Operand} {av:AV} {b:TV} {s:Nat} {r:TV} {ex:List Path} (e:S.jL x av=some (b,S1)) (hs:S1.at s=.v r ex):∃ ex0,S.at s=.v r ex0/\∀ q∈ex0,q∈ex:=by
 have afd:∀ i,(S.put (some i) .dead).at s=.v r ex->S.at s=.v r ex:=by
  intro i h;rw[iA] at h;split at h
  ·simp[AV.refs] at h
  cases hr:(S.at s).refs i&&(S.at i).LG with
  |true=>rw[hr] at h;cases h
  |false=>rw[hr] at h;exact h
 cases av with
 |v b0 ex0=>
  simp only[St.jL] at e;cases hk:b0.m.b5 with
  |true=>rw[hk] at e;simp only[cond_true,Option.some.injEq,Prod.mk.injEq] at e;obtain⟨_,rfl⟩:=e;exact⟨ex,hs,λ_ h=>h⟩
  |false=>
  rw[hk] at e;simp only[cond_false] at e;split at e
  ·simp only[Option.some.injEq,Prod.mk.injEq] at e;obtain⟨_,rfl⟩:=e;exact⟨ex,afd _ hs,λ_ h=>h⟩
  ·simp only[Option.some.injEq,Prod.mk.injEq] at e;obtain⟨_,rfl⟩:=e;exact⟨ex,hs,λ_ h=>h⟩
  cases e
 |al t s0 p=>
  simp only[St.jL] at e;split at e
  ·rename_i b' hb;cases hk:b'.m.b5 with
   |true=>rw[hk] at e;simp only[cond_true,Option.some.injEq,Prod.mk.injEq] at e;obtain⟨_,rfl⟩:=e;exact⟨ex,hs,λ_ h=>h⟩
   |false=>
   rw[hk] at e;simp only[cond_false] at e;split at e
   ·simp only[Option.some.injEq,Prod.mk.injEq] at e;obtain⟨_,rfl⟩:=e;exact⟨ex,afd _ hs,λ_ h=>h⟩
   ·rename_i r2 ex2 _ iT;simp only[Option.some.injEq,Prod.mk.injEq] at e;obtain⟨_,rfl⟩:=e;rw[eH] at hs;split at hs
    ·rename_i hx;injection hs with h1 h2;subst h1 h2;rw[hx.1];exact⟨ex2,iT,λq hq=>List.mem_append_left _ hq⟩
    rw[RJ,s6] at hs;cases Eu:(S.at s).kS s0 with
    |true=>rw[Eu] at hs;simp at hs
    |false=>
    rw[Eu] at hs;simp only[cond_false] at hs;split at hs
    ·cases hx:(Nat.beq _ s0&&under _ _) with
     |true=>rw[hx] at hs;cases hs
     |false=>rw[hx] at hs;cases hs
    exact⟨ex,hs,λ_ h=>h⟩
   cases e
  cases e
 |cut t s0 p lo hi=>
  cases p with
  |cons _ _=>simp[St.jL] at e
  |nil=>
  simp only[St.jL] at e;split at e
  ·cases hl:Nat.beq lo 0 with
   |false=>rw[hl] at e;cases e
   |true=>rw[hl] at e;simp only[cond_true,Option.some.injEq,Prod.mk.injEq] at e;obtain⟨_,rfl⟩:=e;exact⟨ex,afd _ hs,λ_ h=>h⟩
  cases e
 |_=>simp[St.jL] at e
end Go.Pv
namespace Go.Pv
open List Int IntKind
variable {P:Program} {w w':World} {A A' Wr:Nat->Prop} {H:Nat->Value} {tm FP:Nat->Value} {S S' S1:St} {σ bU:Nat->Option Nat} {w0:World} {W0 Z:Nat->Prop} {a:Act} {own:Nat->Prop} {v:Value} {Θ:fA} {dst:Option Nat}
theorem Fr.setRow (h:Fr w0 W0 w) {g:Nat} {cs:Array Value} (hg:w0.heap.size<=g∨W0 g):Fr w0 W0 (w.setRow g cs):=by refine⟨h.os,h.tape,h.output,by rw[setRow_size];exact h.size,λk hk hn=>?_⟩;rw[setRow_other w g k _ (λe=>by subst e;rcases hg with hg |hg;omega;exact hn hg)];exact h.block k hk hn
theorem afe (hT:eA P Θ=true) {T:TypeId} {t:Ty} {g off:Nat} {cs:List Value} {v:Value} {cur:Array Value} {T':TypeId} (ht:Θ.is T t=true) (hm:ah t v cs) (hl:cs.length=t.size) (h1:∀ u∈cs,u.oneCell'=true) (hw:w.heap[g]?=some (.cells cur T' (0,0))) (hb:off+cs.length<=cur.size): (Instr.storeAt T (.pointer (some ⟨g,off,none⟩)) v).run P w=.ok () (w.setRow g (putCells cur.toList off cs).toArray):=by obtain⟨inf,hi,hs,_⟩:=qt hT ht;have:=run_storeCells_at (P:=P) g off T' cs 0 cur w hw (by omega) h1;simp only[Nat.add_zero] at this;simp[Instr.storeAt,Instr.sureAddr,storeVar,sizeOf,typeInfo,hi,hs,sz hm h1,hl];rw[hl] at this;unfold putCells;rw[hl];simpa using this
theorem Ma:∀ (p h:Path),oY p h=true->PD p h=true->h=p
 |[],[],_,_=>rfl
 | .idx i::p,.idx j::h,e,e2=>by simp only[PD,Bool.and_eq_true] at e2;rw[Ma p h (by simpa[oY] using e) e2.1,Nat.eq_of_beq_eq_true e2.2]
 | .deref::p,.deref::h,e,e2=>by rw[Ma p h (by simpa[oY] using e) (by simpa[PD] using e2)]
 | .fst::p,.fst::h,e,e2=>by rw[Ma p h (by simpa[oY] using e) (by simpa[PD] using e2)]
 | .snd::p,.snd::h,e,e2=>by rw[Ma p h (by simpa[oY] using e) (by simpa[PD] using e2)]
 |[],.idx _::_,e,_ |[],.deref::_,e,_ |[],.fst::_,e,_ |[],.snd::_,e,_=>by simp[oY] at e
 | .idx _::_,[],e,_ | .deref::_,[],e,_ | .fst::_,[],e,_ | .snd::_,[],e,_=>by simp[oY] at e
 | .idx _::_,.deref::_,e,_ | .idx _::_,.fst::_,e,_ | .idx _::_,.snd::_,e,_=>by simp[oY] at e
 | .deref::_,.idx _::_,e,_ | .deref::_,.fst::_,e,_ | .deref::_,.snd::_,e,_=>by simp[oY] at e
 | .fst::_,.idx _::_,e,_ | .fst::_,.deref::_,e,_ | .fst::_,.snd::_,e,_=>by simp[oY] at e
 | .snd::_,.idx _::_,e,_ | .snd::_,.deref::_,e,_ | .snd::_,.fst::_,e,_=>by simp[oY] at e
theorem Mb {p q:Path}:∀ {l:List Path},q∈(kD p l).2->q∈l
 |[],h=>h
 |x::r,h=>by
  simp only[kD] at h;cases ha:oY p x with
  |true=>rw[ha] at h;exact List.mem_cons_of_mem _ h
  |false=>
  rw[ha] at h;simp only[cond_false,List.mem_cons] at h;rcases h with h |h
  ·rw[h];exact List.mem_cons_self
  exact List.mem_cons_of_mem _ (Mb h)
theorem JI {p q:Path}:∀ {l:List Path},(kD p l).1=true->(∀ q',q≠p++q')->q∈l->q∈(kD p l).2
 |[],_,_,h=>h
 |x::r,hc,hn,h=>by
  simp only[kD] at hc ⊢;cases ha:oY p x with
  |true=>
  rw[ha] at hc;simp only[cond_true] at hc ⊢;rcases List.mem_cons.1 h with h |h
  ·subst h;exact absurd ((Ma p q ha hc).trans (List.append_nil p).symm) (hn [])
  exact h
  |false=>
  rw[ha] at hc;simp only[cond_false] at hc ⊢;rcases List.mem_cons.1 h with h |h
  ·rw[h];exact List.mem_cons_self
  exact List.mem_cons_of_mem _ (JI hc hn h)
def anM (Θ:fA) (T:TypeId) (x y:Operand) (S S':St) (a:Act) (w w':World):Prop:=∃ (av av2:AV) (t:Ty) (s:Nat) (p:Path) (b:TV) (S1:St) (r r':TV) (ex0 ex1:List Path) (cs dw:List Value) (g off:Nat) (cur:Array Value) (T':TypeId),S.jT Θ 0 x=some av/\S.JB x av=some (.pl t s p)/\S.jT Θ T y=some av2/\S.jL y av2=some (b,S1)/\S.at s=.v r ex0/\S'.at s=.v r' ex1/\r'.t=r.t/\(∃ b0,a7 p r.t r.m r.x=some b0/\b.t=b0.t)/\ ah b.t (a.eval y) cs/\cs.length=b.t.size/\ah r.t (cn a s) dw/\addrAt w p r.t dw none=some (g,off)/\w.heap[g]?=some (.cells cur T' (0,0))/\off+cs.length<=cur.size/\w'=w.setRow g (putCells cur.toList off cs).toArray
theorem RO (hT:eA P Θ=true) (h:a6 σ w0 W0 Z H S a w) {o:Oper} {T:TypeId} {x y:Operand} (ho:o.op=.store T x y) (xZ:o.dst=none) (e:tO Θ S T x y=some (true,S')): ∃ w' ir,(execOp a.eval o).run P w=.ok .skip w'/\a6 ir w0 W0 Z H S' a w'/\anM Θ T x y S S' a w w':=by
 unfold tO at e;split at e;case h_2=>cases e
 rename_i av jU;split at e;case h_2=>cases e
 rename_i t s p akF;unfold St.take at e;split at e;case h_2=>cases e
 rename_i b S1 hb;split at hb;case h_2=>cases hb
 rename_i av2 RP;cases hc:Θ.is T b.t with
 |false=>rw[hc] at e;cases e
 |true=>
  rw[hc] at e;simp only[cond_true] at e;split at e;case h_2=>cases e
  rename_i r ex hs1;split at e;case h_2=>cases e
  rename_i m z CL;cases hex:ex.all (λq=>!under q p) with
 |false=>rw[hex] at e;cases e
 |true=>
  rw[hex] at e
  simp only[cond_true,Option.some.injEq,Prod.mk.injEq] at e
  obtain⟨hds,e⟩:=e
  have Mc:open_ p ex:=ki (λq hq=>by simpa using List.all_eq_true.1 hex q hq)
  obtain⟨r0,ex0,q1,q2⟩:=G' h jU akF
  obtain⟨bU,cs,ow,h1,hm,hM,hk,hn⟩:=lV h RP hb
  obtain⟨atS,q3,q4⟩:=take_at hb hs1
  rw[q1] at q3
  injection q3 with q3 q3'
  subst q3 q3'
  obtain⟨dw,g,off,hr,y9,hx⟩:=q2 (λq hq=>Mc q (q4 q hq))
  obtain⟨b0,hb0,LN⟩:=hr.get
  -- the slot,behind the take
  have hh:=h1.holds s
  rw[hs1] at hh
  obtain⟨aqa,YC,Yb⟩:=hh
  obtain rfl:=eG hr.mat YC
  have Qj:s<S1.length:=kT (by rw[hs1];exact λe=>by cases e)
  obtain⟨fH,fp,c1,c2,c3,xX⟩:=Oi p Yb Mc hr.val hb0
  have lU:b.t=b0.t:=Ip p CL hb0
  obtain⟨EH,xX⟩:=xX b (m,z) lU CL
  have hpm:aI p=false:=by
   cases hp:aI p with
   |false=>rfl
   |true=>rw[lu p hp] at y9;cases y9
  -- the address is the same: the world is
  have agR:addrAt w p r0.t dw none=some (g,off):=y9
  obtain⟨lO,EG,cur,T',hw,hbound,_⟩:=EH g off agR
  obtain⟨hlen,akG⟩:=lQ _ hM
  have GS:off+cs.length<=cur.size:=by rw[hlen,lU];exact hbound
  have dp:=afe (P:=P) (w:=w) hT hc hm hlen akG hw GS
  have Me:∀ g',ow g'->bU g'≠some s:=λg' bq e'=>by
   obtain⟨i,hi,yB⟩:=hk.now g' bq
   rw[e'] at yB
   injection yB with yB
   omega
  let iB:Nat->Option Nat:=λg'=>open Classical in if ow g' then some s else bU g'
  have Wq:∀ g' i,iB g'=some i->(ow g'/\i=s)∨(¬ow g'/\bU g'=some i):=λg' i bq=>by
   simp only[iB] at bq
   split at bq
   ·injection bq with bq;exact .inl ⟨by assumption,bq.symm⟩
   ·exact .inr ⟨by assumption,bq⟩
  have Ve:∀ g' i,¬ow g'->bU g'=some i->iB g'=some i:=λg' i hn bq=>by simp only[iB,if_neg hn,bq]
  have akH:∀ g',Av iB Z g'->Av bU Z g':=λg' bq=>by
   rcases bq with⟨i,bq⟩ |bq
   ·rcases Wq g' i bq with⟨hx,_⟩ |⟨_,hx⟩
    ·obtain⟨j,_,hj⟩:=hk.now g' hx
     exact .inl ⟨j,hj⟩
    ·exact .inl ⟨i,hx⟩
   ·exact .inr bq
  have mf:∀ k,k≠g->(w.setRow g (putCells cur.toList off cs).toArray).heap[k]?=w.heap[k]?:=λk hk=>setRow_other w g k _ hk
  have cP:aU w (w.setRow g (putCells cur.toList off cs).toArray) (Av bU Z) (Av iB Z):=⟨λk hk _=>mf k (λe'=>hk (by rw[e'];exact .inl ⟨s,lO⟩)),λk _ hk=>akH k hk⟩
  have hMb:M (w.setRow g (putCells cur.toList off cs).toArray) (Av iB Z) H b.t b.m b.x cs ow (LM p (kD p (ex.filter λq=>!pre p q)).2):=by
   refine aG ⟨λk mc _=>mf k (λe'=>mc (by rw[e'];exact hk.Av.1 (.inl ⟨s,lO⟩))),λk _ mc=>hk.Av.1 (akH k mc)⟩ _ (λk mc _=>mf k (λe'=>Me k mc (by rw[e'];exact lO))) (λk mc _=>mc) (λ_ h=>by simp at h) hM
  have Mf:=xX (w.setRow g (putCells cur.toList off cs).toArray) (Av iB Z) cs ow (kD p (ex.filter λq=>!pre p q)).2 cP (by rw[hlen,lU]) (λk hk1 Vb _=>by
    rw[agR]
    simp only[yD]
    split
    ·rename_i hkg
     subst hkg
     exact⟨cur,T',hw,setRow_heap w k cur _ T' (0,0) hw⟩
    ·rename_i hkg
     exact mf k hkg) hMb (λk hk1 _ Vb=>absurd Vb (Me k hk1)) (λq hq1 UX=>by
    refine JI hds hq1 (List.mem_filter.2 ⟨UX,?_⟩)
    cases hp:pre p q with
    |false=>rfl
    |true=>
     obtain⟨q',rfl⟩:=Wp p q hp
     exact absurd rfl (hq1 q'))
  rw[wS p hpm] at Mf
  have amD:M (w.setRow g (putCells cur.toList off cs).toArray) (Av iB Z) H r0.t m z dw (λg'=>iB g'=some s) (kD p (ex.filter λq=>!pre p q)).2:=by
   refine aG (aU.refl _ _) _ (λ_ _ _=>rfl) (λk mc _=>?_) (λ_ h=>h) Mf
   rcases mc with⟨k1,_⟩ |k1
   ·exact Ve k s (λhx=>Me k hx k1) k1
   ·simp only[iB,if_pos k1]
  have aqb:((S1.weaken s).set s (.v ⟨r0.t,m,z⟩ (kD p (ex.filter λq=>!pre p q)).2)).length=S1.length:=by simp[St.weaken]
  refine⟨w.setRow g (putCells cur.toList off cs).toArray,iB,?_,?_,av,av2,t,s,p,b,S1,r0,⟨r0.t,m,z⟩,_,_,cs,dw,g,off,cur,T',jU,akF,RP,hb,q1,by rw[←e,eH,if_pos ⟨rfl,by simp[St.weaken];exact Qj⟩],rfl,⟨b0,hb0,lU⟩,hm,hlen,hr.mat,y9,hw,GS,rfl⟩
  ·simp only[execOp,ho,hx,Sem.run_bind,dp,Result.andThen_ok]
   rfl
  ·show a6 iB w0 W0 Z H S' a (w.setRow g (putCells cur.toList off cs).toArray)
   have iT:∀ i,S'.at i=if i=s then .v ⟨r0.t,m,z⟩ (kD p (ex.filter λq=>!pre p q)).2 else bif (S1.at i).kS s then .dead else S1.at i:=by
    intro i
    rw[←e,eH]
    by_cases hi:i=s
    ·rw[if_pos hi,if_pos ⟨hi,by simp[St.weaken];exact Qj⟩]
    ·rw[if_neg hi,if_neg (λh=>hi h.1),s6]
   refine⟨by rw[←e,aqb];exact h1.len,h1.defers,h1.fr.setRow (h1.new g s lO),λg' i bq=>?_,λg' i bq=>?_,λg' bq=>⟨?_,(h1.old g' bq).2⟩,λi=>?_⟩
   ·rcases Wq g' i bq with⟨hx,_⟩ |⟨_,hx⟩
    ·obtain⟨j,_,hj⟩:=hk.now g' hx
     exact h1.new g' j hj
    ·exact h1.new g' i hx
   ·rw[setRow_size]
    rcases Wq g' i bq with⟨hx,_⟩ |⟨_,hx⟩
    ·obtain⟨j,_,hj⟩:=hk.now g' hx
     exact h1.lt g' j hj
    ·exact h1.lt g' i hx
   ·have:=(h1.old g' bq).1
    simp only[iB]
    split
    ·rename_i hx
     obtain⟨j,_,hj⟩:=hk.now g' hx
     rw[this] at hj
     cases hj
    ·exact this
   ·rw[iT i]
    by_cases Vd:i=s
    ·subst Vd
     rw[if_pos rfl]
     exact⟨dw,hr.mat,amD⟩
    ·rw[if_neg Vd]
     by_cases Uh:i<S1.length
     rotate_left
     ·have:S1.at i=.dead:=Classical.byContradiction λhx=>Uh (kT hx)
      rw[this]
      trivial
     cases Eu:(S1.at i).kS s with
     |true=>trivial
     |false=>
      simp only[cond_false]
      refine JH (r:=r0) (r':=⟨r0.t,m,z⟩) (ex:=ex) (Qi:=(kD p (ex.filter λq=>!pre p q)).2) cP rfl hs1 (by rw[iT s,if_pos rfl]) (λj r1 ex1 hj hv=>by rw[iT j,if_neg hj,hv];simp[AV.kS]) ⟨dw,_,hr.mat,amD⟩ (λq hq=>(List.mem_filter.1 (Mb hq)).1)
       (λq hq hv=>Ku q p CL hpm hq hv) (λq b1 hq=>agQ q p CL hq m) (λj hj=>⟨_,h1.holds j,λg' bq _=>mf g' (λe'=>by subst e';rw[lO] at bq;injection bq with bq;exact hj bq.symm)⟩)
       (λg' bq _=>⟨mf g' (λe'=>by subst e';rw[lO] at bq;injection bq with bq;exact Vd bq.symm),Ve g' i (λhx=>?_) bq⟩) Eu (h1.holds i)
      obtain⟨j,Ub,Ew⟩:=hk.now g' hx
      rw[bq] at Ew
      injection Ew with Ew
      omega
theorem agS (hT:eA P Θ=true) (h:a6 σ w0 W0 Z H S a w) {o:Oper} {T:TypeId} {x y:Operand} (ho:o.op=.store T x y) (xZ:o.dst=none) (e:tO Θ S T x y=some (true,S')):RB P w0 W0 Z H S' a o.dst w (execOp a.eval o):=by obtain⟨w',ir,h1,h2,_⟩:=RO hT h ho xZ e;rw[xZ];exact⟨w',undef,.inr ⟨rfl,h1⟩,ir,h2⟩
end Go.Pv
namespace Go.Pv
open List Int IntKind
variable {P:Program} {w w':World} {A A' Wr:Nat->Prop} {H:Nat->Value} {tm FP:Nat->Value} {S S' S1:St} {σ bU iB:Nat->Option Nat} {w0:World} {W0 Z:Nat->Prop} {a:Act} {own:Nat->Prop} {v:Value} {Θ:fA} {dst:Option Nat}
theorem YD (off:Nat):∀ (l:List Value) (k:Nat) (cells:Array Value),off+k+l.length<=cells.size-> ((l.zipIdx k).foldl (λ(cs:Array Value) (x:Value×Nat)=>cs.setIfInBounds (off+x.2) x.1) cells).toList=putCells cells.toList (off+k) l
 |[],k,cells,h=>by simp[putCells]
 |c::l,k,cells,h=>by
  simp only[List.zipIdx_cons,List.foldl_cons];simp only[List.length_cons] at h;rw[YD off l (k+1) (cells.setIfInBounds (off+k) c) (by simp;omega)];have h1:off+k<cells.toList.length:=by simp;omega
  apply List.ext_getElem?;intro j;rw[qn _ _ _ _ (by simp;omega),qn _ _ _ _ (by simp;omega)];simp only[Array.toList_setIfInBounds,List.length_cons];by_cases hj:j<off+k
  ·rw[if_pos (by omega),if_pos hj,List.getElem?_set_ne (by omega)]
  by_cases Ew:j=off+k
  ·subst Ew;rw[if_pos (by omega),if_neg (by omega),if_pos (by omega),List.getElem?_set_self h1];simp
  by_cases hj3:j<off+k+1+l.length
  ·rw[if_neg (by omega),if_pos (by omega),if_neg (by omega),if_pos (by omega),show j - (off+k)=(j - (off+(k+1)))+1 from by omega];simp
  rw[if_neg (by omega),if_neg (by omega),if_neg (by omega),if_neg (by omega),List.getElem?_set_ne (by omega)]
def Dg (fK:List (List Value)) (i:Nat):Nat:=((fK.take i).map length).sum
theorem EU (fK:List (List Value)) (i:Nat) (h:i<fK.length):fK.flatten=(fK.take i).flatten++(fK[i]++(fK.drop (i+1)).flatten):=by
 conv=>lhs;rw[←List.take_append_drop i fK]
 rw[List.flatten_append,List.drop_eq_getElem_cons h,List.flatten_cons]
theorem RQ (fK:List (List Value)) (i:Nat):(fK.take i).flatten.length=Dg fK i:=by simp[Dg,List.length_flatten]
theorem akI (fK:List (List Value)) (i:Nat) (c:List Value) (h:i<fK.length) (hc:c.length=fK[i].length):putCells fK.flatten (Dg fK i) c=(fK.set i c).flatten:=by
 have e1:=EU fK i h;have e2:=EU (fK.set i c) i (by simpa using h);rw[e2];simp only[List.getElem_set_self];rw[List.take_set_of_le (by omega),List.drop_set_of_lt (by omega)];have hd:fK.flatten.drop (Dg fK i+c.length)=(fK.drop (i+1)).flatten:=by rw[e1,←RQ,hc,←List.append_assoc,←List.length_append,List.drop_left]
 have ht:fK.flatten.take (Dg fK i)=(fK.take i).flatten:=by rw[e1,←RQ,List.take_left]
 unfold putCells;rw[hd,ht,List.append_assoc]
theorem agT (fK:List (List Value)) (i j:Nat) (c:List Value) (h:i<fK.length) (hc:c.length=fK[i].length):Dg (fK.set i c) j=Dg fK j:=by
 unfold Dg;congr 1;apply List.ext_getElem?;intro k;simp only[List.getElem?_map,List.getElem?_take,List.getElem?_set];split
 ·by_cases hk:i=k
  ·subst hk;simp[h,hc]
  simp[hk]
 rfl
theorem agU (fK:List (List Value)) (i:Nat) (h:i<fK.length):Dg fK i+fK[i].length<=fK.flatten.length:=by rw[EU fK i h,List.length_append,List.length_append,RQ];omega
def YE (f:Nat->Option (List Value)) (fK:List (List Value)):List (List Value):=fK.mapIdx λi c=>(f i).getD c
theorem Vf (place:Nat->Option (Nat×Nat)):∀ (parts:List (Nat×Value)) (fK:List (List Value)),(∀ i (h:i<fK.length),place i=some (Dg fK i,fK[i].length))->
  (∀ q∈parts,∃ h:q.1<fK.length,q.2.cells.size=fK[q.1].length)->(parts.map (·.1)).Nodup->
  Instr.fill place fK.flatten.toArray parts=some (YE (λi=>(parts.find? (λq=>Nat.beq q.1 i)).map (·.2.cells.toList)) fK).flatten.toArray
 |[],fK,_,_,_=>by
  have:YE (λi=>(([]:List (Nat×Value)).find? (λq=>Nat.beq q.1 i)).map (·.2.cells.toList)) fK=fK:=by
   unfold YE
   apply List.ext_getElem?
   intro k
   simp[List.getElem?_mapIdx]
  rw[this];rfl
 |(i,v)::rest,fK,hp,hs,hn=>by
  obtain⟨hi,hv⟩:=hs (i,v) (by simp)
  simp only at hi hv
  have GS:=agU fK i hi
  simp only[Instr.fill,hp i hi]
  have aqc:=GS
  rw[List.length_flatten] at aqc
  rw[if_neg (by simp[hv];omega)]
  have hlen:v.cells.toList.length=fK[i].length:=by simpa using hv
  have aqd:v.cells.zipIdx.foldl (λcs (x:Value×Nat)=>cs.setIfInBounds (Dg fK i+x.2) x.1) fK.flatten.toArray=(fK.set i v.cells.toList).flatten.toArray:=by
   have:=YD (Dg fK i) v.cells.toList 0 fK.flatten.toArray (by simp only[hlen,List.size_toArray];omega)
   rw[←akI fK i v.cells.toList hi hlen]
   apply Array.toList_inj.1
   rw[←Array.foldl_toList,Array.toList_zipIdx]
   simpa using this
  simp only[List.map_cons,List.nodup_cons] at hn
  have CL:∀ (k:Nat) (hk:k<(fK.set i v.cells.toList).length),(fK.set i v.cells.toList)[k].length=(fK[k]'(by simpa using hk)).length:=by
   intro k hk
   rw[List.getElem_set]
   split
   ·rename_i e;subst e;exact hlen
   ·rfl
  have ih:=Vf place rest (fK.set i v.cells.toList) (λk hk=>by rw[agT fK i k _ hi hlen,CL k hk];exact hp k (by simpa using hk)) (λq hq=>by
   obtain⟨h1,h2⟩:=hs q (by simp[hq])
   exact⟨by simpa using h1,by rw[CL];exact h2⟩) hn.2
  refine(congrArg (λc=>Instr.fill place c rest) aqd).trans (ih.trans ?_)
  congr 3
  unfold YE
  apply List.ext_getElem?
  intro k
  simp only[List.getElem?_mapIdx,List.getElem?_set]
  by_cases hk:i=k
  ·subst hk
   have:rest.find? (λq=>Nat.beq q.1 i)=none:=List.find?_eq_none.2 λq hq e=>hn.1 (List.mem_map.2 ⟨q,hq,Nat.eq_of_beq_eq_true e⟩)
   simp[hi,this]
  ·have:Nat.beq i k=false:=by
    cases hb:Nat.beq i k with
    |false=>rfl
    |true=>exact absurd (Nat.eq_of_beq_eq_true hb) hk
   simp[hk,this]
end Go.Pv
namespace Go.Pv
open List Int IntKind
variable {P:Program} {w w':World} {A A' Wr:Nat->Prop} {H:Nat->Value} {tm FP:Nat->Value} {S S' S1:St} {σ bU iB:Nat->Option Nat} {w0:World} {W0 Z:Nat->Prop} {a:Act} {own:Nat->Prop} {v:Value} {Θ:fA} {dst:Option Nat}
theorem pO.trans {n:Nat} {ow1 Dd:Nat->Prop} (h1:pO σ bU n ow1) (h2:pO bU iB n Dd):pO σ iB n (λg=>ow1 g∨Dd g):=by
 refine⟨λg hg=>?_,λg hg=>?_,λg i hg hi=>h1.sub g i (h2.sub g i hg hi) hi,λg=>(h2.dom g).trans (h1.dom g),λg i hg hi=>h2.par g i (h1.par g i hg hi) hi⟩
 ·rcases hg with hg |hg
  ·exact h1.YA g hg
  obtain⟨i,hi,yB⟩:=h2.YA g hg;exact⟨i,hi,h1.sub g i yB hi⟩
 rcases hg with hg |hg
 ·obtain⟨i,hi,yB⟩:=h1.now g hg;exact⟨i,hi,h2.par g i yB hi⟩
 exact h2.now g hg
theorem pO.apart {n:Nat} {ow1 Dd:Nat->Prop} (h1:pO σ bU n ow1) (h2:pO bU iB n Dd) {g:Nat} (hg:ow1 g): ¬Dd g:=λEG=>by obtain⟨i,hi,yB⟩:=h1.now g hg;obtain⟨j,hj,Ew⟩:=h2.YA g EG;rw[yB] at Ew;injection Ew with Ew;omega
theorem Aw:∀ (t:Ty),(zc t).length=t.size
 | .int _=>rfl | .bool=>rfl | .str=>rfl | .sl _=>rfl | .ptr _=>rfl | .unit=>rfl | .mp=>rfl
 | .pair a b=>by simp[zc,Ty.size,Aw a,Aw b]
 | .arr n t=>by simp[zc,Ty.size,List.length_flatten,Aw t]
theorem EV (hT:eA P Θ=true) (ps:List (Nat×Operand)):∀ (Ts:List TypeId) (j:Nat) {S S1:St} {σ:Nat->Option Nat} {l:List TV},a6 σ w0 W0 Z H S a w->S.parts Θ ps Ts j=some (l,S1)-> ∃ (bU:Nat->Option Nat) (ow:Nat->Prop) (τ:Nat->Nat) (l9:List (List Value)),a6 bU w0 W0 Z H S1 a w/\S1.length=S.length/\pO σ bU S.length ow/\l9.length=l.length/\l.length=Ts.length/\(∀ g,ow g->j<=τ g)/\ ∀ (k:Nat) (b:TV),l[k]?=some b->∃ cs,l9[k]?=some cs/\M w (Av σ Z) H b.t b.m b.x cs (λg=>ow g/\τ g=j+k) []/\ ((∃ q,ps.find? (λq=>Nat.beq q.1 (j+k))=some q/\ah b.t (a.eval q.2) cs)∨(ps.find? (λq=>Nat.beq q.1 (j+k))=none/\cs=zc b.t))
 |[],j,S,S1,σ,l,h,e=>by simp only[St.parts,Option.some.injEq,Prod.mk.injEq] at e;obtain⟨rfl,rfl⟩:=e;exact⟨σ,λ_=>False,λ_=>j,[],h,rfl,pO.none _ _,rfl,rfl,λ_ h=>h.elim,λk b hk=>by simp at hk⟩
 |T::Ts,j,S,S1,σ,l,h,e=>by
  simp only[St.parts] at e;split at e
  ·rename_i q hq;unfold St.take at e;split at e;case h_2=>cases e
   rename_i b S2 hb;split at hb;case h_2=>cases hb
   rename_i av jU;split at e;case h_2=>cases e
   rename_i l2 S3 hl2;simp only[Option.some.injEq,Prod.mk.injEq] at e;obtain⟨rfl,rfl⟩:=e;obtain⟨bU,cs,ow,h1,hm,hM,hk,hn⟩:=lV h jU hb;obtain⟨iB,Dd,τ,l9,r1,r2,r3,r4,r5,r6,r7⟩:=EV hT ps Ts (j+1) h1 hl2;rw[hn] at r3;have hap:∀ g,ow g->¬Dd g:=λg hg=>hk.apart r3 hg;let τ':Nat->Nat:=λg=>open Classical in if ow g then j else τ g
   refine⟨iB,λg=>ow g∨Dd g,τ',cs::l9,r1,by omega,hk.trans r3,by simp[r4],by simp[r5],λg hg=>?_,λk b' mc=>?_⟩
   ·simp only[τ'];split
    ·exact Nat.le_refl _
    rename_i hx;have:=r6 g (hg.resolve_left hx);omega
   cases k with
   |zero=>simp only[List.getElem?_cons_zero,Option.some.injEq] at mc;subst mc;refine⟨cs,rfl,aG (aU.refl _ _) _ (λ_ _ _=>rfl) (λg hg _=>⟨.inl hg,by simp only[τ',if_pos hg,Nat.add_zero]⟩) (λ_ h=>h) hM,.inl ⟨q,hq,hm⟩⟩
   |succ k=>simp only[List.getElem?_cons_succ] at mc ⊢;obtain⟨c2,d1,d2,d3⟩:=r7 k b' mc;refine⟨c2,d1,aG ⟨λ_ _ _=>rfl,λg _ hg=>hk.Av.2 hg⟩ _ (λ_ _ _=>rfl) (λg hg _=>⟨.inr hg.1,?_⟩) (λ_ h=>h) d2,by rw[show j+(k+1)=j+1+k from by omega];exact d3⟩;simp only[τ'];rw[if_neg (λhx=>hap g hx hg.1),hg.2];omega
  rename_i hq;split at e;case h_2=>cases e
  rename_i b hb;split at e;case h_2=>cases e
  rename_i l2 S3 hl2;simp only[Option.some.injEq,Prod.mk.injEq] at e;obtain⟨rfl,rfl⟩:=e;obtain⟨i,inf,zv,_,_,hx,GS,_⟩:=OH hT hb;obtain⟨iB,Dd,τ,l9,r1,r2,r3,r4,r5,r6,r7⟩:=EV hT ps Ts (j+1) h hl2;refine⟨iB,Dd,τ,zc b.t::l9,r1,r2,r3,by simp[r4],by simp[r5],λg hg=>by have:=r6 g hg;omega,λk b' mc=>?_⟩;cases k with
  |zero=>simp only[List.getElem?_cons_zero,Option.some.injEq] at mc;subst mc;refine⟨_,rfl,Wo ?_,.inr ⟨hq,rfl⟩⟩;rw[hx];exact RN _ GS
  |succ k=>simp only[List.getElem?_cons_succ] at mc ⊢;obtain⟨c2,d1,d2,d3⟩:=r7 k b' mc;exact⟨c2,d1,aG (aU.refl _ _) _ (λ_ _ _=>rfl) (λg hg _=>⟨hg.1,by rw[hg.2];omega⟩) (λ_ h=>h) d2,by rw[show j+(k+1)=j+1+k from by omega];exact d3⟩
theorem RR {ps:List (Nat×Operand)} {l:List TV} {l9:List (List Value)} {place:Nat->Option (Nat×Nat)} (hl:l9.length=l.length) (hpl:xB l.length ps=true) (hlen:∀ (k:Nat) (b:TV) (cs:List Value),l[k]?=some b->l9[k]?=some cs->cs.length=b.t.size/\∀ u∈cs,u.oneCell'=true) (qk:∀ (k:Nat) (b:TV),l[k]?=some b->∃ cs,l9[k]?=some cs/\((∃ q,ps.find? (λq=>Nat.beq q.1 k)=some q/\ah b.t (a.eval q.2) cs)∨(ps.find? (λq=>Nat.beq q.1 k)=none/\cs=zc b.t))) (aqe:∀ i (h:i<l.length),place i=some (Dg (l.map λb=>zc b.t) i,l[i].t.size)): Instr.fill place (l.map λb=>zc b.t).flatten.toArray (ps.map λq=>(q.1,a.eval q.2))=some l9.flatten.toArray:=by
 have hp:∀ {n:Nat} {ps:List (Nat×Operand)},xB n ps=true->(∀ q∈ps,q.1<n)/\(ps.map (·.1)).Nodup:=by
  intro n ps;induction ps with
  |nil=>intro _;exact⟨λ_ h=>by simp at h,by simp⟩
  |cons q r ih=>
  intro h;simp only[xB,Bool.and_eq_true] at h;obtain⟨⟨h1,h2⟩,h3⟩:=h;obtain⟨i1,i2⟩:=ih h3;refine⟨λq' Gy=>?_,?_⟩
  ·rcases List.mem_cons.1 Gy with rfl |Gy
   ·exact Nat.lt_of_succ_le (Nat.le_of_ble_eq_true h1)
   exact i1 q' Gy
  simp only[List.map_cons,List.nodup_cons];refine⟨λhm=>?_,i2⟩;obtain⟨q',Gy,e⟩:=List.mem_map.1 hm;have:(r.any λq'=>Nat.beq q'.1 q.1)=true:=List.any_eq_true.2 ⟨q',Gy,by rw[e];exact Nat.beq_refl _⟩;rw[this] at h2;cases h2
 obtain⟨du,UW⟩:=hp hpl;have mm:∀ i (h:i<l.length),l[i]?=some l[i]:=λi h=>List.getElem?_eq_getElem h;have agM:∀ (i:Nat) (q:Nat×Operand),q∈ps->q.1=i->ps.find? (λq=>Nat.beq q.1 i)=some q:=by
  intro i q hq hi;subst hi;clear qk hlen aqe hpl du;induction ps with
  |nil=>simp at hq
  |cons q' r ih=>
  simp only[List.map_cons,List.nodup_cons] at UW;rcases List.mem_cons.1 hq with rfl |hq
  ·simp
  have:Nat.beq q'.1 q.1=false:=by
   cases hb:Nat.beq q'.1 q.1 with
   |false=>rfl
   |true=>exact absurd (List.mem_map.2 ⟨q,hq,(Nat.eq_of_beq_eq_true hb).symm⟩) UW.1
  rw[List.find?_cons,this];exact ih UW.2 hq
 rw[Vf place _ (l.map λb=>zc b.t) (λi h=>by
  rw[aqe i (by simpa using h)]
  simp[Aw]) (λq hq=>by
  obtain⟨q0,hq0,rfl⟩:=List.mem_map.1 hq
  have hi:=du q0 hq0
  refine⟨by simpa using hi,?_⟩
  obtain⟨cs,h1,h2⟩:=qk q0.1 _ (mm q0.1 hi)
  obtain⟨h3,h4⟩:=hlen _ _ _ (mm q0.1 hi) h1
  rcases h2 with⟨q,Gy,hm⟩ |⟨Gy,_⟩
  ·rw[agM q0.1 q0 hq0 rfl] at Gy
   injection Gy with Gy
   subst Gy
   rw[sz hm h4]
   simp[h3,Aw]
  ·rw[agM q0.1 q0 hq0 rfl] at Gy;cases Gy) (by simpa[List.map_map,Function.comp_def] using UW)]
 congr 3;unfold YE;apply List.ext_getElem?;intro k;rw[List.getElem?_mapIdx];by_cases hk:k<l.length
 ·simp only[List.getElem?_map,mm k hk,Option.map_some];obtain⟨cs,h1,h2⟩:=qk k _ (mm k hk);obtain⟨h3,h4⟩:=hlen _ _ _ (mm k hk) h1;rw[h1];rw[List.find?_map];simp only[Function.comp_def];rcases h2 with⟨q,Gy,hm⟩ |⟨Gy,he⟩
  ·rw[Gy];simp only[Option.map_some,Option.getD_some];rw[sz hm h4]
  rw[Gy];simp[he]
 rw[List.getElem?_eq_none (by simpa using hk),List.getElem?_eq_none (by omega)];rfl
end Go.Pv
namespace Go.Pv
open List Int IntKind
variable {P:Program} {w w':World} {A A' Wr:Nat->Prop} {H:Nat->Value} {tm FP:Nat->Value} {S S' S1:St} {σ bU iB:Nat->Option Nat} {w0:World} {W0 Z:Nat->Prop} {a:Act} {own:Nat->Prop} {v:Value} {Θ:fA} {dst:Option Nat}
theorem amE {ow:Nat->Prop} {τ:Nat->Nat}:∀ (l:List TV) (l9:List (List Value)) (j:Nat),l9.length=l.length-> (∀ (k:Nat) (b:TV),l[k]?=some b->∃ cs,l9[k]?=some cs/\M w A H b.t b.m b.x cs (λg=>ow g/\τ g=j+k) [])-> M w A H (Ua l).t (Ua l).m (Ua l).x l9.flatten (λg=>ow g/\j<=τ g) []
 |[],l9,j,hl,_=>by obtain rfl:l9=[]:=List.eq_nil_of_length_eq_zero (by simpa using hl);simp[Ua,M,K,Md.b5]
 |[a],l9,j,hl,h=>by
  obtain⟨cs,h1,h2⟩:=h 0 a rfl
  match l9,hl with
  |[c],_=>
   simp only[List.getElem?_cons_zero,Option.some.injEq] at h1
   subst h1
   simp only[Ua,List.flatten_cons,List.flatten_nil,List.append_nil]
   exact aG (aU.refl _ _) _ (λ_ _ _=>rfl) (λg hg _=>⟨hg.1,by rw[hg.2];omega⟩) (λ_ h=>h) h2
 |a::b::r,l9,j,hl,h=>by
  match l9,hl with
  |c::cs,hl=>
   obtain⟨c',h1,h2⟩:=h 0 a rfl
   simp only[List.getElem?_cons_zero,Option.some.injEq] at h1
   subst h1
   have ih:=amE (ow:=ow) (τ:=τ) (b::r) cs (j+1) (by simpa using hl) (λk b' hk=>by
    obtain⟨c',h1,h2⟩:=h (k+1) b' (by simpa using hk)
    exact⟨c',by simpa using h1,aG (aU.refl _ _) _ (λ_ _ _=>rfl) (λg hg _=>⟨hg.1,by rw[hg.2];omega⟩) (λ_ h=>h) h2⟩)
   simp only[Ua,List.flatten_cons]
   refine LL (s:=λg=>τ g=j) ?_ ?_
   ·exact aG (aU.refl _ _) _ (λ_ _ _=>rfl) (λg hg _=>⟨⟨hg.1,by rw[hg.2];omega⟩,by rw[hg.2];rfl⟩) (λ_ h=>by simp at h) h2
   ·exact aG (aU.refl _ _) _ (λ_ _ _=>rfl) (λg hg _=>⟨⟨hg.1,by omega⟩,by omega⟩) (λ_ h=>by simp at h) ih
theorem abn {ow:Nat->Prop} {τ:Nat->Nat} {l:List TV} {l9:List (List Value)} (hl:l9.length=l.length) (h:∀ (k:Nat) (b:TV),l[k]?=some b->∃ cs,l9[k]?=some cs/\M w A H b.t b.m b.x cs (λg=>ow g/\τ g=0+k) []): M w A H (kE l).t (kE l).m (kE l).x l9.flatten ow []:=by
 have h0:=amE (ow:=ow) (τ:=τ) l l9 0 hl h;have h1:M w A H (Ua l).t (Ua l).m (Ua l).x l9.flatten ow []:=aG (aU.refl _ _) _ (λ_ _ _=>rfl) (λg hg _=>hg.1) (λ_ h=>h) h0;cases l with
 |nil=>exact h1
 |cons a r=>
 cases r with
 |cons b r=>exact h1
 |nil=>have:M w A H (.pair a.t .unit) (mkM a.m .k) (a.x,()) (l9.flatten++[]) ow []:=LL (s:=λ_=>True) (aG (aU.refl _ _) _ (λ_ _ _=>rfl) (λg hg _=>⟨hg,trivial⟩) (λ_ h=>by simp at h) h1) (by simp[M,K,Md.b5]);rw[List.append_nil] at this;exact this
theorem adB:∀ (l:List TV) (k:Nat) (h:k<l.length),pN (if k+1=l.length then List.replicate k .snd else List.replicate k .snd++[.fst]) (Ua l).t=some l[k].t/\ aE (if k+1=l.length then List.replicate k .snd else List.replicate k .snd++[.fst]) (Ua l).t=Dg (l.map λb=>zc b.t) k
 |[a],k,h=>by obtain rfl:k=0:=(by simpa using h);simp[Ua,pN,aE,Dg]
 |a::b::r,0,h=>by simp[Ua,pN,aE,Dg]
 |a::b::r,k+1,h=>by
  obtain⟨h1,h2⟩:=adB (b::r) k (by simpa using h);have e:(if k+1+1=(a::b::r).length then List.replicate (k+1) Step.snd else List.replicate (k+1) .snd++[.fst])=.snd::(if k+1=(b::r).length then List.replicate k Step.snd else List.replicate k .snd++[.fst]):=by
   simp only[List.length_cons];by_cases hk:k=r.length
   ·rw[if_pos (by omega),if_pos (by omega)];rfl
   rw[if_neg (by omega),if_neg (by omega)];rfl
  rw[e];simp only[Ua,pN,aE];refine⟨h1,?_⟩;rw[h2];simp only[List.map_cons,Dg,List.take_succ_cons,List.map_cons,List.sum_cons,Aw]
theorem Ws (l:List TV) (k:Nat) (h:k<l.length):pN (BD k l.length) (kE l).t=some l[k].t/\aE (BD k l.length) (kE l).t=Dg (l.map λb=>zc b.t) k:=by
 match l,h with
 |[a],h=>
  obtain rfl:k=0:=by simpa using h
  simp[kE,BD,pN,aE,Dg]
 |a::b::r,h=>
  have:=adB (a::b::r) k h
  have e:BD k (a::b::r).length=if k+1=(a::b::r).length then List.replicate k .snd else List.replicate k .snd++[.fst]:=by
   unfold BD
   by_cases hk:k+1=(a::b::r).length
   ·have h1:Nat.beq (k+1) (a::b::r).length=true:=by rw[←hk];exact Nat.beq_refl _
    rw[if_pos hk,h1]
    have:Nat.beq (a::b::r).length 1=false:=by
     simp only[List.length_cons]
     rfl
    rw[this]
    rfl
   ·rw[if_neg hk]
    have:Nat.beq (k+1) (a::b::r).length=false:=by
     cases hb:Nat.beq (k+1) (a::b::r).length with
     |false=>rfl
     |true=>exact absurd (Nat.eq_of_beq_eq_true hb) hk
    rw[this]
    rfl
  rw[e]
  exact this
theorem YF (l:List TV):zc (kE l).t=(l.map λb=>zc b.t).flatten:=by
 have h:∀ l:List TV,zc (Ua l).t=(l.map λb=>zc b.t).flatten:=by
  intro l;induction l with
  |nil=>simp[Ua,zc]
  |cons a r ih=>
  cases r with
  |nil=>simp[Ua]
  |cons b r=>simp only[Ua,zc,List.map_cons,List.flatten_cons];rw[ih];simp
 unfold kE;split
 ·simp[zc]
 exact h l
theorem mapM_some {α β:Type} {g:α->Option β} {h:α->β}:∀ (l:List α),(∀ f∈l,g f=some (h f))->l.mapM g=some (l.map h)
 |[],_=>by simp
 |f::r,hf=>by rw[List.mapM_cons,hf f (by simp),mapM_some r λf hf'=>hf f (by simp[hf'])];rfl
theorem agV (hT:eA P Θ=true) (h:a6 σ w0 W0 Z H S a w) {o:Oper} {T:TypeId} {ps:Array (Nat×Operand)} (ho:o.op=.build T ps) (e:LJ Θ S o.dst T ps.toList=some (true,S')):wa P w0 W0 Z H S' a o.dst w (execOp a.eval o):=by
 unfold LJ at e;split at e;case h_2=>cases e
 rename_i i hi;split at e;case h_2=>cases e
 rename_i l S1 hl;cases hc:(decide ((kE l).t=i.ty)&&LJ.agc i.ty&&xB l.length ps.toList) with
 |false=>rw[hc] at e;cases e
 |true=>
 rw[hc] at e;simp only[cond_true,Option.some.injEq,Prod.mk.injEq,true_and] at e;simp only[Bool.and_eq_true,decide_eq_true_eq] at hc;obtain⟨⟨lU,amF⟩,hpl⟩:=hc;obtain⟨bU,ow,τ,l9,h1,hn,hk,rX,hll,hj,wV⟩:=EV hT ps.toList i.fs 0 h hl;obtain⟨⟨_,inf,z,k1,k2,_,_,_,k3,k4⟩,hu,rfl⟩:=fJ hT hi;obtain⟨pa,pb,hpp⟩:∃ pa pb,i.ty=.pair pa pb:=by cases agW:i.ty<;>rw[agW] at amF<;>first |exact⟨_,_,rfl⟩ |cases amF
 obtain⟨fs,f1,f2,f3,_⟩:=As hu hpp;have OF:fs.toList.length=l.length:=by rw[hll,←f2,List.length_map]
 have hM:M w (Av σ Z) H (kE l).t (kE l).m (kE l).x l9.flatten ow []:=abn rX (λk b hb=>by obtain⟨cs,c1,c2,_⟩:=wV k b hb;exact⟨cs,c1,c2⟩);have akJ:∀ f∈fs.toList,(P.info? f.type).map (λi=>(f.offset,i.size))=some (f.offset,P.cellsOf f.type):=by intro f hf;obtain⟨k,hk,rfl⟩:=List.mem_iff_getElem.1 hf;obtain⟨t,_,ht,_⟩:=s8 f3 k _ (List.getElem?_eq_getElem hk);obtain⟨asT,i1,i2,i3⟩:=qt hT ht;rw[i1,Option.map_some,i2,i3]
 have agX:=RR (a:=a) (ps:=ps.toList) (l:=l) (l9:=l9) (place:=λk=>(fs.toList.map λf=>(f.offset,P.cellsOf f.type)).toArray[k]?) rX hpl (λk b cs hb qk=>by
  obtain⟨fH,c1,c2,_⟩:=wV k b hb
  rw[c1] at qk
  injection qk with qk
  subst qk
  exact lQ _ c2) (λk b hb=>by
  obtain⟨fH,c1,_,c3⟩:=wV k b hb
  simp only[Nat.zero_add] at c3
  exact⟨fH,c1,c3⟩) (λk hk=>by
  obtain⟨q1,q2⟩:=Ws l k hk
  obtain⟨t,t1,t2,t3,_⟩:=s8 f3 k (fs.toList[k]'(by omega)) (List.getElem?_eq_getElem (by omega))
  have hfs:fs.size=l.length:=by rw[←OF,Array.length_toList]
  rw[Nat.zero_add,←lU,hfs] at t1 t3
  rw[q1] at t1
  injection t1 with t1
  subst t1
  obtain⟨_,_,_,c3⟩:=qt hT t2
  rw[q2] at t3
  simp only[List.getElem?_toArray,List.getElem?_map,List.getElem?_eq_getElem (show k<fs.toList.length by omega),Option.map_some,c3,t3])
 have anN:P.built i.T (ps.map λ(j,x)=>(j,a.eval x)).toList=some l9.flatten.toArray:=by
  unfold Program.built;have hz:z.cells=(l.map λb=>zc b.t).flatten.toArray:=by rw[←YF,lU];have hag:isAgg i.ty=true:=(by rw[hpp];rfl);unfold ah at k4;rw[if_pos hag] at k4;rw[k4];rfl
  rw[k1,f1];simp only[k3,mapM_some _ akJ,hz];rw[Array.toList_map];exact agX
 have dp:=λw=>run_build (P:=P) w i.T _ _ anN;rw[←e];have lP:∀ w2,(execOp a.eval o).run P w2=.ok (.value (.agg l9.flatten.toArray)) w2:=λw2=>by simp only[execOp,ho,Sem.run_bind,dp w2,Result.andThen_ok];rfl
 refine(De (b:=kE l) (cs:=l9.flatten) (v:=.agg l9.flatten.toArray) h1 hk hn (λw2 _=>lP w2) ?_ hM).still lP;unfold ah;rw[if_pos (by rw[lU,hpp];rfl)]
end Go.Pv
