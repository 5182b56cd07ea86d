/- A verified evaluator of the program's form over pure values, part 2: what it tells of a function holds. -/
import Derived.Test.YtpcoilhcgcpjmaaGreatDoorPv1
import Derived.Laws.BytesString
import Derived.Laws.Cells
import Derived.Laws.CopyRow
import Derived.Laws.Entries
import Derived.Laws.MakeOwn
import Derived.Laws.OwnMore
import Derived.Laws.Shifts
import Derived.Laws.Strings
import Derived.Laws.StructEq
import Derived.Laws.Tables
import Derived.Maps.AppendAt
set_option linter.unusedSimpArgs false
set_option linter.unusedVariables false
noncomputable section
namespace Go.Pv
open List Int IntKind
abbrev jP:= @Go.Addr.add_lit
abbrev db:= @Array.getElem?_eq_getElem
abbrev gf:= @Array.size_push
abbrev hY:= @Array.toList_inj
abbrev ng:= @Array.toList_map
abbrev lR:= @Bool.false_ne_true
abbrev tW:= @Function.comp_def
abbrev aT:= @List.drop_eq_getElem_cons
abbrev dQ:= @List.eq_nil_of_length_eq_zero
abbrev gv:= @List.flatten_cons
abbrev lh:= @List.foldl_cons
abbrev bL:= @List.getElem?_eq_some_iff
abbrev rI:= @List.getElem?_mapIdx
abbrev mY:= @List.getElem?_set_self
abbrev qv:= @List.getElem?_toArray
abbrev gw:= @List.getElem_take
abbrev xQ:= @List.head?_drop
abbrev ak:= @List.length_cons
abbrev rJ:= @List.length_flatten
abbrev aY:= @List.length_map
abbrev su:= @List.mapM_cons
abbrev bz:= @List.map_cons
abbrev nZ:= @List.map_map
abbrev eE:= @List.mem_append_left
abbrev mZ:= @List.mem_append_right
abbrev lS:= @List.mem_cons_self
abbrev dp:= @List.mem_filter
abbrev cg:= @List.mem_map
abbrev rK:= @List.replicate_succ'
abbrev pY:= @List.sum_cons
abbrev n0:= @List.take_succ_cons
abbrev iK:= @Nat.add_sub_cancel_left
abbrev dM:= @Nat.add_zero
abbrev vj:= @Nat.eq_zero_or_pos
abbrev zt:= @Nat.lt_irrefl
abbrev nJ:= @Nat.lt_of_le_of_lt
abbrev nq:= @Nat.mul_one
abbrev qj:= @Option.getD_some
abbrev aV:= @Go.Result.andThen_ok
abbrev aZ:= @Go.Sem.run_bind
abbrev cW:= @Go.Sem.run_pure
abbrev br:= @congrArg
abbrev gW:= @Go.heap_alloc_new
abbrev qk:= @not_false_eq_true
abbrev vk:= @Go.run_equalIn_bool'
abbrev n5:= @Go.run_loadCells_list
abbrev qV:= @Go.run_program
abbrev a7:= @Go.run_underlying
abbrev ik:= @Go.setRow_heap
abbrev kX:= @Go.setRow_other
abbrev jQ:= @Go.setRow_size
end Go.Pv
namespace Go.Pv
open List Int IntKind
variable {P:Program} {w w':World} {A A':Nat->Prop} {H:Nat->Value} {tm N':Nat->Value} {S S':St} {σ:Nat->Option Nat} {w0:World} {W0 Z:Nat->Prop} {a:Act} {own:Nat->Prop} {v:Value} {Θ:kR} {dst:Option Nat} {g:Bool}
def adv (P:Program) (w0:World) (W0 Z:Nat->Prop) (H:Nat->Value) (S':St) (a:Act) (dst:Option Nat) (w:World) (s:Sem Next):Prop:=∃ w' v,(s.run P w=.ok (.value v) w'∨(v=undef/\s.run P w=.ok .skip w'))/\Rel w0 W0 Z H S' (a.put dst v) w'
def Ext (w w':World):Prop:=∀ g,g<w.heap.size->w'.heap[g]?=w.heap[g]?
theorem Ext.refl (w:World):Ext w w:=λ_ _=>rfl
theorem Ext.stays (h:Ext w w'):cN w w' A A:=⟨λg _ hg=>h g hg,λ_ _ h=>h⟩
def x7 (P:Program) (w0:World) (W0 Z:Nat->Prop) (H:Nat->Value) (S':St) (a:Act) (dst:Option Nat) (w:World) (s:Sem Next):Prop:=∃ v,(∀ w2,Ext w w2->s.run P w2=.ok (.value v) w2)/\Rel w0 W0 Z H S' (a.put dst v) w
theorem x7.goes {s:Sem Next} (h:x7 P w0 W0 Z H S' a dst w s):adv P w0 W0 Z H S' a dst w s:=by obtain⟨v,h1,h2⟩:=h;exact⟨w,v,.inl (h1 w (Ext.refl w)),h2⟩
theorem jd {s:Sem Next} {av:AV} (h:cY σ w0 W0 Z H S a w) (hr:∀ w2,Ext w w2->s.run P w2=.ok (.value v) w2) (hv:Holds w (Av σ Z) H (gM a) S (λ_=>False) av v): x7 P w0 W0 Z H (S.put dst av) a dst w s:=⟨v,hr,_,h.pure hv⟩
def Df (P:Program) (w0:World) (W0 Z:Nat->Prop) (H:Nat->Value) (S':St) (a:Act) (dst:Option Nat) (w:World) (s:Sem Next):Prop:=∃ v,(∀ w2,s.run P w2=.ok (.value v) w2)/\Rel w0 W0 Z H S' (a.put dst v) w
theorem Df.q {s:Sem Next} (h:Df P w0 W0 Z H S' a dst w s):x7 P w0 W0 Z H S' a dst w s:=by obtain⟨v,h1,h2⟩:=h;exact⟨v,λw2 _=>h1 w2,h2⟩
theorem hZ {s:Sem Next} {av:AV} (h:cY σ w0 W0 Z H S a w) (hr:∀ w2,s.run P w2=.ok (.value v) w2) (hv:Holds w (Av σ Z) H (gM a) S (λ_=>False) av v): Df P w0 W0 Z H (S.put dst av) a dst w s:=⟨v,hr,_,h.pure hv⟩
def scalar:Ty->Bool
 | .int _=>true | .bool=>true | .str=>true |_=>false
theorem aa3 {afj:Nat->Prop} {tm1:Nat->Value} {S2:St} {r:TV} {v1 v2:Value} (hs:scalar r.t=true) (h1:Holds w A H tm S own (.v r []) v1) (h2:Holds w' A' H tm1 S2 afj (.v r []) v2):v1=v2:=by
 obtain⟨rt,rm,rx⟩:=r;obtain⟨cs,a1,a2⟩:=h1;obtain⟨kS,b1,b2⟩:=h2;cases rt<;>simp[scalar] at hs<;>simp only[M] at a2 b2
 ·rw[lg a1 a2.2,lg b1 b2.2]
 ·rw[lQ a1 a2.2,lQ b1 b2.2]
 rw[qD a1 a2.2,qD b1 b2.2]
theorem Ns (h:cY σ w0 W0 Z H S a w) {T:TypeId} {x:Operand} {a' av:AV} (ho:S.pJ Θ T x=some a') (hc:S.copy x a'=some av): Holds w (Av σ Z) H (gM a) S (λ_=>False) av (a.eval x):=by
 have hh:=eH h ho;cases a' with
 |v b ex=>
  simp only[St.copy] at hc;cases hk:b.m.eY with
  |true=>simp only[hk,ab,ah] at hc;subst hc;obtain⟨cs,h1,h2⟩:=hh;obtain⟨bt,bm,bx⟩:=b;refine⟨cs,h1,?_⟩;exact KU hk (tD _ hk h2)
  |false=>
  simp only[hk,ae] at hc;cases x with
  |tmp i=>simp only[ah] at hc;subst hc;simp only[St.pJ,ah] at ho;obtain⟨cs,h1,h2⟩:=hh;exact⟨b,cs,cs,⟨⟨ex,ho,λq _ s r e=>by cases q<;>simp at e⟩,trivial,⟨b,rfl,rfl⟩,h1⟩,rfl,h1⟩
  |const c=>
   cases ex with
   |cons _ _=>simp at hc
   |nil=>simp only[ah] at hc;subst hc;obtain⟨cs,h1,h2⟩:=hh;exact⟨cs,h1,b8 (cN.refl _ _) _ (λ_ _ _=>rfl) (λg hg _=>by obtain⟨i,hi,_⟩:=hg;cases hi) (λ_ h=>h) h2⟩
  |func f=>
   cases ex with
   |cons _ _=>simp at hc
   |nil=>simp[St.pJ] at ho
  |global f=>
  cases ex with
  |cons _ _=>simp at hc
  |nil=>simp[St.pJ] at ho
 |dead=>simp[St.copy] at hc
 |QU l=>simp[St.copy] at hc
 |undef=>simp only[St.copy,ah] at hc;subst hc;exact hh
 |al t s p=>simp only[St.copy,ah] at hc;subst hc;exact hh
 |ad t s p=>simp only[St.copy,ah] at hc;subst hc;exact hh
 |cut t s p lo hi=>simp only[St.copy,ah] at hc;subst hc;exact hh
 |EL f c=>simp only[St.copy,ah] at hc;subst hc;exact hh
theorem auO (h:cY σ w0 W0 Z H S a w) {o:Oper} {x:Operand} (ho:o.op=.move x) (hnt:∀ l,S.pJ Θ o.type x≠some (.QU l)) (e:Nb Θ S o.dst o.type x=some (true,S')):Df P w0 W0 Z H S' a o.dst w (execOp a.eval o):=by
 unfold Nb at e;split at e
 ·rename_i l hl;exact absurd hl (hnt l)
 ·rename_i a' _ ha;split at e
  ·rename_i av hv;injection e with e;injection e with _ e;subst e;exact hZ h (λw2=>by simp only[execOp,ho];rfl) (Ns h ha hv)
  cases e
 cases e
theorem apZ {op:BinOp} {k k':IntKind} {x y:Int} {r:TV} (T:TypeId) (hk:k=k'∨op=.shl∨op=.shr) (e:auv op k x y=some (true,r)): ∃ v,(binOp op T (.int k x) (.int k' y)).run P w=.ok v w/\Holds w A H tm S (λ_=>False) (.v r []) v:=by
 cases op<;>simp only[auv,ah,aF,reduceCtorEq,cl] at e;case add=>
  obtain rfl:k=k':=by simpa using hk
  subst e;exact⟨_,by simp[binOp,Op.intArith],mF _ _⟩
 case sub=>
  obtain rfl:k=k':=by simpa using hk
  subst e;exact⟨_,by simp[binOp,Op.intArith],mF _ _⟩
 case mul=>
  obtain rfl:k=k':=by simpa using hk
  subst e;exact⟨_,by simp[binOp,Op.intArith],mF _ _⟩
 case quo=>
  obtain rfl:k=k':=by simpa using hk
  obtain⟨e0,rfl⟩:=e
  have h0: ¬y=0:=by simpa using e0
  exact⟨_,by simp[binOp,Op.intDiv,h0],mF _ _⟩
 case rem=>
  obtain rfl:k=k':=by simpa using hk
  obtain⟨e0,rfl⟩:=e
  have h0: ¬y=0:=by simpa using e0
  exact⟨_,by simp[binOp,Op.intDiv,h0],mF _ _⟩
 case and=>
  obtain rfl:k=k':=by simpa using hk
  subst e;exact⟨_,by simp[binOp,Op.intBits],mF _ _⟩
 case or=>
  obtain rfl:k=k':=by simpa using hk
  subst e;exact⟨_,by simp[binOp,Op.intBits],mF _ _⟩
 case xor=>
  obtain rfl:k=k':=by simpa using hk
  subst e;exact⟨_,by simp[binOp,Op.intBits],mF _ _⟩
 case eql=>
  obtain rfl:k=k':=by simpa using hk
  subst e;exact⟨_,by simp[binOp,Op.intCmp],kW _⟩
 case neq=>
  obtain rfl:k=k':=by simpa using hk
  subst e;exact⟨_,by simp[binOp,Op.intCmp],kW _⟩
 case lss=>
  obtain rfl:k=k':=by simpa using hk
  subst e;exact⟨_,by simp[binOp,Op.intCmp],kW _⟩
 case leq=>
  obtain rfl:k=k':=by simpa using hk
  subst e;exact⟨_,by simp[binOp,Op.intCmp],kW _⟩
 case gtr=>
  obtain rfl:k=k':=by simpa using hk
  subst e;exact⟨_,by simp[binOp,Op.intCmp],kW _⟩
 case geq=>
  obtain rfl:k=k':=by simpa using hk
  subst e;exact⟨_,by simp[binOp,Op.intCmp],kW _⟩
 case shl=>
  obtain⟨e0,rfl⟩:=e
  have h0: ¬y<0:=by
   have:0<=y:=by simpa using e0
   omega
  exact⟨_,by simp[binOp,Op.shift,h0],mF _ _⟩
 case shr=>
  obtain⟨e0,rfl⟩:=e
  have h0: ¬y<0:=by
   have:0<=y:=by simpa using e0
   omega
  exact⟨_,by simp[binOp,Op.shift,h0],mF _ _⟩
theorem ap0 {op:BinOp} {x y:ByteArray} {r:TV} (T:TypeId) (e:auw op x y=some (true,r)): ∃ v,(binOp op T (.string x) (.string y)).run P w=.ok v w/\Holds w A H tm S (λ_=>False) (.v r []) v:=by
 cases op<;>simp only[auw,ah,aF,reduceCtorEq,cl] at e;case add=>
  obtain⟨e0,rfl⟩:=e
  have h0:x.size+y.size<=9223372036854775807:=by simpa using e0
  refine⟨_,?_,aea _⟩
  rw[binOp_string_add]
  simp only[Op.stringOp,IntKind.max_i64]
  rw[ar (by omega)]
  rfl
 case eql=>subst e;exact⟨_,by rw[binOp_string_eql];rfl,kW _⟩
 case neq=>subst e;exact⟨_,by rw[binOp_string_neq];rfl,kW _⟩
theorem ahq {op:UnOp} {b r:TV} {v:Value} {cs:List Value} (hm:a6 b.t v cs) (hK:K w (λ_=>False) b.t b.x cs) (e:auy op b=some r): ∃ u,(Op.unary op v).run P w=.ok u w/\Holds w A H tm S (λ_=>False) (.v r []) u:=by
 unfold auy at e;split at e
 ·injection e with e;subst e;obtain rfl:=lQ hm hK;exact⟨_,rfl,kW _⟩
 ·injection e with e;subst e;obtain rfl:=lg hm hK;exact⟨_,rfl,mF _ _⟩
 ·injection e with e;subst e;obtain rfl:=lg hm hK;exact⟨_,by simp[Op.unary,Op.intBits],mF _ _⟩
 cases e
theorem aAE (h:cY σ w0 W0 Z H S a w) {o:Oper} {op:UnOp} {T:TypeId} {x:Operand} (ho:o.op=.unOp op T x) (e:axR Θ S o.dst op x=some (true,S')):x7 P w0 W0 Z H S' a o.dst w (execOp a.eval o):=by
 unfold axR at e;split at e
 ·rename_i b hb;split at e
  ·rename_i r hr;injection e with e;injection e with _ e;subst e;obtain⟨cs,h1,h2,_⟩:=qi h hb;obtain⟨u,h3,h4⟩:=ahq (P:=P) (A:=Av σ Z) (H:=H) (tm:=gM a) (S:=S) h1 h2 hr;have hsc:scalar r.t=true:=by unfold auy at hr;split at hr<;>first |(injection hr with hr;subst hr;rfl) |cases hr
   refine jd h (λw2 hw=>?_) h4;obtain⟨u2,k3,k4⟩:=ahq (w:=w2) (P:=P) (A:=Av σ Z) (H:=H) (tm:=gM a) (S:=S) h1 (fA hw.stays _ h2) hr;rw[aa3 hsc h4 k4];simp[execOp,ho,k3]
  cases e
 cases e
theorem aa4 (hT:kh P Θ=true) (h:cY σ w0 W0 Z H S a w) {o:Oper} {T T':TypeId} {x:Operand} (ho:o.op=.convert T T' x) (hk:(match Θ.find T' with
  |some i=>(match i.ty with
   | .int _=>true
   |_=>false)
  |none=>false)=true) (e:xc Θ S o.dst T T' x=some (true,S')):Df P w0 W0 Z H S' a o.dst w (execOp a.eval o):=by
 unfold xc at e
 split at e
 ·rename_i k m n i _ k' _ _ hb hi hj
  injection e with e;injection e with _ e;subst e
  obtain⟨cs,h1,h2,_⟩:=qi h hb
  have hv:=lg h1 h2
  obtain⟨_,hu,rfl⟩:=kV hT hi
  obtain⟨_,QZ,hT'⟩:=kV hT hj
  obtain⟨d,hd⟩:=(Vg hu).1
  have hd':=Ve QZ rfl
  rw[hT'] at hd'
  refine hZ h (v:=.int k' (k'.wrap n)) (λw2=>?_) (mF _ _)
  simp[execOp,ho,hv,convert,a7 hd,a7 hd',Conv.intToInt]
 ·rename_i hj
  rw[hj] at hk
  cases hk
 ·cases e
theorem ahr (hT:kh P Θ=true) (h:cY σ w0 W0 Z H S a w) {o:Oper} {T T':TypeId} {x:Operand} (ho:o.op=.convert T T' x) (e:xc Θ S o.dst T T' x=some (true,S')):x7 P w0 W0 Z H S' a o.dst w (execOp a.eval o):=by
 have e0:=e;unfold xc at e;split at e
 ·rename_i hj;exact(aa4 hT h ho (by rw[hj]) e0).q
 ·rename_i m xs _ _ _ _ _ _ hb hi hj;injection e with e;injection e with _ e;subst e;obtain⟨cs,h1,h2,_⟩:=qi h hb;obtain⟨X,c,hv,rfl,hc⟩:=Ij h1 h2;obtain⟨_,hu,hT0⟩:=kV hT hi;obtain⟨_,QZ,hT'⟩:=kV hT hj;obtain⟨hd,he,_⟩:=F9 hu rfl;have hd':=Nq QZ rfl;obtain⟨ie,hie,rH⟩:=ph he;obtain⟨_,hue,hTe⟩:=kV hT hie;have hde:=Ve hue rH;simp only at hT0 hT' hd hd';rw[hT0] at hd;rw[hT'] at hd';rw[hTe] at hde;refine jd h (v:=.string (bytesOf xs)) (λw2 hw=>?_) ⟨[.string (bytesOf xs)],by simp[a6,isAgg],by simp[M,K,Md.eY]⟩;have hK:=fA hw.stays _ h2;simp only[execOp,ho,hv,aZ];rw[run_convert_bytes_string w2 T T' _ X xs.length c hd hde hd'];simp only[K] at hK;obtain⟨X',c',e1,_,hx⟩:=hK;simp only[dW,fc,iJ] at e1;obtain⟨rfl,_,rfl⟩:=e1;by_cases h0:0<xs.length
  ·obtain⟨g,off,cur,T2,fr,rfl,_,Nh,hlen,Rw⟩:=hx h0;rw[run_bytesToString w2 ⟨g,off,none⟩ xs.length c xs ?_]
   ·simp[bytesOf,cW]
   have:=n5 (P:=P) (w:=w2) ⟨g,off,none⟩ (xs.map (Value.int .u8)) (λj v hj=>?_)
   ·rwa [aY] at this
   rw[bO] at hj;cases M8:xs[j]? with
   |none=>rw[M8] at hj;cases hj
   |some n=>
   rw[M8] at hj;simp only[aP,ah] at hj;subst hj;have Oe:=(bL.1 M8).1;have h3:=Rw j Oe;have hn:xs[j]=n:=(bL.1 M8).2;simp only[K,Ty.size,nq] at h3;rw[hn] at h3;have h4:(cur.toList.drop (off+j)).head?=some (.int .u8 n):=by
    cases hd:cur.toList.drop (off+j) with
    |nil=>rw[hd] at h3;simp at h3
    |cons y r=>rw[hd] at h3;simp at h3;simp[h3]
   rw[xQ] at h4;rw[jP];simp only[World.cell?,Nh];rw[←bI,h4];rfl
  have:xs=[]:=dQ (by omega);subst this;cases X with
  |none=>simp[Conv.bytesToString,bytesOf,cW]
  |some A=>show((Conv.bytesToString (Value.slice (some A) 0 c)).run P w2).andThen _=_;rw[run_bytesToString w2 A 0 c [] (by simpa using n5 (P:=P) (w:=w2) A [] (λj v hj=>by simp at hj))];simp[bytesOf,cW]
 cases e
theorem aot (x y:ByteArray):(x==y)=(x.toList==y.toList):=beq_toListBytes x y
theorem aeb {t:Ty} (h:isAgg t=false):t.size=1:=by cases t<;>simp[isAgg] at h<;>rfl
theorem LA (hT:kh P Θ=true) {T:TypeId} {t:Ty} (ht:Θ.is T t=true) {cs:List Value} {off:Nat} (hlen:off+t.size<=cs.length): ∃ u,(part T cs.toArray off).run P w=.ok u w/\a6 t u ((cs.drop off).take t.size):=by
 have hag:=akn hT ht w;obtain⟨inf,s1,s2,_⟩:=xg hT ht;have hso:(sizeOf T).run P w=.ok t.size w:=by simp[sizeOf,typeInfo,s1,s2]
 cases hca:isAgg t with
 |true=>
 refine⟨.agg (cs.toArray.extract off (off+t.size)),?_,?_⟩
 ·rw[hca] at hag;unfold part;simp only[aZ,hag,aV,dy,hso];rfl
 unfold a6;rw[ay hca];congr 1;apply hY.1;rw[Array.toList_extract,b5,b5,List.extract_eq_drop_take'];rw[iE,iK]
 |false=>
 have h1:=aeb hca;have ako:off<cs.length:=by omega
 refine⟨cs[off],?_,?_⟩
 ·rw[hca] at hag;unfold part;simp only[aZ,hag,aV,ar lR];rw[qv,aN ako];rfl
 unfold a6;rw[ar (by rw[hca];exact lR),h1,aT ako,n0,tP]
theorem ahs:∀ (p q:Path) (t:Ty),wa (p++q) t=(wa p t).bind (wa q):=by
 intro p;induction p with
 |nil=>intro q t;rfl
 |cons s p ih=>intro q t;cases s<;>cases t<;>first |rfl |exact ih q _
theorem aa5:∀ (p q:Path) (t u:Ty),wa p t=some u->cA (p++q) t=cA p t+cA q u:=by
 intro p;induction p with
 |nil=>intro q t u h;simp only[wa,ah] at h;subst h;simp[cA]
 |cons s p ih=>
 intro q t u h;cases s<;>cases t<;>simp only[wa,reduceCtorEq] at h
 ·simp only[bD,cA];exact ih q _ u h
 simp only[bD,cA];rw[ih q _ u h];omega
theorem axY {k n:Nat} (h2:2<=n):JI k n=if k+1=n then List.replicate k .snd else List.replicate k .snd++[.fst]:=by
 unfold JI;have h1:Nat.beq n 1=false:=by
  cases hb:Nat.beq n 1 with
  |false=>rfl
  |true=>have:=aw hb;omega
 by_cases hkn:k+1=n
 ·rw[ay hkn,hkn,bS,h1];rfl
 have:Nat.beq (k+1) n=false:=by
  cases hb:Nat.beq (k+1) n with
  |false=>rfl
  |true=>exact absurd (aw hb) hkn
 rw[ar hkn,this];rfl
theorem Q0 {t:Ty} {v:Value} {cs:List Value} (ha:isAgg t=true) (h:a6 t v cs):v=.agg cs.toArray:=by simpa[a6,ha] using h
theorem Vh (hT:kh P Θ=true):∀ (d:Nat) (t:Ty) {T:TypeId} {x y:t.I} {r:Bool} {cs kS:List Value} {u v:Value},Θ.is T t=true->eqV t x y=some r->a6 t u cs->a6 t v kS->K w (λ_=>False) t x cs->K w (λ_=>False) t y kS->t.ht<d->
  (Op.equalIn d T u v).run P w=.ok r w
 |0,_,_,_,_,_,_,_,_,_,_,_,_,_,_,_,hd=>absurd hd (Nat.not_lt_zero _)
 |d+1,t,T,x,y,r,cs,kS,u,v,hT1,he,hu,hv,hx,hy,hd=>by
  obtain⟨i,hi,rH⟩:=ph hT1
  obtain⟨_,hun,h3⟩:=kV hT hi
  cases t with
  |int k=>
   have QZ:=Ve hun rH
   rw[h3] at QZ
   simp only[eqV,ah] at he
   subst he
   obtain rfl:=lg hu hx
   obtain rfl:=lg hv hy
   rw[run_equalIn_int w d T k k _ _ QZ]
   congr 1
  |bool=>
   have QZ:=Vf hun rH
   rw[h3] at QZ
   simp only[eqV,ah] at he
   subst he
   obtain rfl:=lQ hu hx
   obtain rfl:=lQ hv hy
   exact vk w d T _ _ QZ
  |str=>
   have QZ:=Nq hun rH
   rw[h3] at QZ
   simp only[eqV,ah] at he
   subst he
   obtain rfl:=qD hu hx
   obtain rfl:=qD hv hy
   rw[run_equalIn_string w d T _ _ QZ,aot]
  |unit=>exact absurd rH (Vg hun).2.2
  |sl t=>simp[eqV] at he
  |ptr t=>simp[eqV] at he
  |arr n t=>simp[eqV] at he
  |mp=>simp[eqV] at he
  |pair pa pb=>
   obtain⟨fs,hfs,hft,AQ,hg,hsh,hnb⟩:=Ii hun rH
   rw[h3] at hfs hsh
   obtain rfl:=Q0 rfl hu
   obtain rfl:=Q0 rfl hv
   have hfo:P.fieldsOf T=fs:=by unfold Program.fieldsOf;rw[hfs]
   rw[run_equalIn_struct w d T _ _ (by rw[hfo];exact hfs) hsh,hfo]
   have hlx:=(Fa _ hx).1
   have hly:=(Fa _ hy).1
   rw[rH] at AQ
   have XZ:fs.toList.length=i.fs.length:=by rw[←hft,aY]
   have hU:=aw2 hT hi
   unfold uOK at hU
   rw[ai,rH] at hU
   have hU:=hU.2
   rcases gD fs.size 2 with h2 |h2
   ·match hfi:i.fs,hfe:fs.toList with
    |[],_=>rw[hfi] at hU;simp at hU
    |[T1],[f]=>
     rw[hfi] at hU
     cases pb<;>simp at hU
     rw[hfe] at AQ
     have hs1:fs.size=1:=by rw[←bQ,hfe];rfl
     simp only[Fh,hs1,cM] at AQ
     have e1:JI 0 1=[.fst]:=rfl
     rw[e1] at AQ
     simp only[wa,cA,ai] at AQ
     obtain⟨⟨k1,k2⟩,k3⟩:=AQ
     have k2:=aw k2
     simp only[Ty.size,dM] at hlx hly
     obtain⟨u1,p1,p2⟩:=LA (w:=w) hT k1 (cs:=cs) (off:=0) (by omega)
     obtain⟨v1,q1,q2⟩:=LA (w:=w) hT k1 (cs:=kS) (off:=0) (by omega)
     rw[dJ,cw (by omega)] at p2 q2
     simp only[eqV] at he
     split at he
     case h_2=>cases he
     rename_i p q hp hq
     injection hq with hq
     subst hq
     injection he with he
     subst he
     simp only[K] at hx hy
     obtain⟨c0,c1,rfl,hx0,hx1⟩:=hx
     obtain⟨c0',c1',rfl,hy0,hy1⟩:=hy
     subst hx1 hy1
     rw[b6] at p2 q2 p1 q1
     simp only[Ty.ht] at hd
     have hr:=Vh hT d _ k1 hp p2 q2 hx0 hy0 (by omega)
     have hnm:=hnb f (by rw[←Array.mem_toList_iff,hfe];exact bj.2 rfl)
     simp only[Op.eqFields,hnm,ne_eq,qk,dy,aZ,k2,b6,p1,q1,aV,hr]
     cases p<;>simp
    |[T1],[]=>rw[hfi,hfe] at XZ;simp at XZ
    |[T1],_::_::_=>rw[hfi,hfe] at XZ;simp at XZ
    |_::_::_,_=>rw[hfi] at XZ;simp only[bQ,ak] at XZ;omega
   ·have key : ∀ (l : List Field) (k : Nat) (s : Ty) (x' y' : s.I) (c c' : List Value) (r : Bool), k + l.length = fs.size → l ≠ [] → (∀ f ∈ l, f.name ≠ "_") → Fh Θ (.pair pa pb) fs.size l k = true → wa (List.replicate k .snd) (.pair pa pb) = some s →
      cs.drop (cA (List.replicate k .snd) (.pair pa pb))=c->kS.drop (cA (List.replicate k .snd) (.pair pa pb))=c'->cA (List.replicate k .snd) (.pair pa pb)+s.size<=(Ty.pair pa pb).size->K w (λ_=>False) s x' c->K w (λ_=>False) s y' c'->(s.ht<d∨(1<l.length/\s.ht<d+1))->eqV s x' y'=some r->(Op.eqFields d cs.toArray kS.toArray l).run P w=.ok r w:=by
     intro l
     induction l with
     |nil=>intro k s x' y' c c' r _ h;exact absurd rfl h
     |cons f l ih=>
      intro k s x' y' c c' r hk _ hnm AQ hs hc hc' rz hx hy hd he
      have hnf:=hnm f (lS ..)
      simp only[Fh,ai] at AQ
      obtain⟨AQ,aht⟩:=AQ
      rw[axY h2] at AQ
      cases l with
      |nil=>
       rw[ay (by simpa using hk),hs] at AQ
       simp only[ai] at AQ
       obtain⟨⟨k1,k2⟩,k3⟩:=AQ
       have k2:=aw k2
       obtain⟨u1,p1,p2⟩:=LA (w:=w) hT k1 (cs:=cs) (off:=f.offset) (by omega)
       obtain⟨v1,q1,q2⟩:=LA (w:=w) hT k1 (cs:=kS) (off:=f.offset) (by omega)
       have l1:=(Fa _ hx).1
       have l2:=(Fa _ hy).1
       rw[k2,hc,cw (by omega)] at p2
       rw[k2,hc',cw (by omega)] at q2
       have hr:=Vh hT d _ k1 he p2 q2 hx hy (by rcases hd with hd |hd;exact hd;simp at hd)
       simp only[Op.eqFields,hnf,ne_eq,qk,dy,aZ,p1,q1,aV,hr]
       cases r<;>simp
      |cons f' l=>
       rw[ar (by simp only[ak] at hk;omega),ahs,hs,aI] at AQ
       cases s with
       |pair sa sb=>
        simp only[wa,ai] at AQ
        obtain⟨⟨k1,k2⟩,k3⟩:=AQ
        have k2:=aw k2
        rw[aa5 _ _ _ _ hs] at k2
        simp only[cA,dM] at k2
        simp only[eqV] at he
        split at he
        case h_2=>cases he
        rename_i p q hp hq
        injection he with he
        subst he
        simp only[K] at hx hy
        obtain⟨c0,c1,hcc,hx0,hx1⟩:=hx
        obtain⟨c0',c1',aAF,hy0,hy1⟩:=hy
        have l0:=(Fa _ hx0).1
        have l0':=(Fa _ hy0).1
        simp only[Ty.size] at rz hlx hly
        obtain⟨u1,p1,p2⟩:=LA (w:=w) hT k1 (cs:=cs) (off:=f.offset) (by omega)
        obtain⟨v1,q1,q2⟩:=LA (w:=w) hT k1 (cs:=kS) (off:=f.offset) (by omega)
        rw[k2,hc,hcc,←l0,dP] at p2
        rw[k2,hc',aAF,←l0',dP] at q2
        have hdd:max sa.ht sb.ht+1<d+1:=by
         simp only[Ty.ht] at hd
         omega
        have hr:=Vh hT d _ k1 hp p2 q2 hx0 hy0 (by omega)
        have aAG:List.replicate (k+1) Step.snd=List.replicate k .snd++[.snd]:=rK
        have axZ:cA (List.replicate (k+1) .snd) (.pair pa pb)=cA (List.replicate k .snd) (.pair pa pb)+sa.size:=by
         rw[aAG,aa5 _ _ _ _ hs];simp[cA]
        have hi:=ih (k+1) sb x'.2 y'.2 c1 c1' q (by simp only[ak] at hk ⊢;omega) (by simp) (λf hf=>hnm f (er _ hf)) aht (by rw[aAG,ahs,hs];rfl)
         (by rw[axZ,←dO,hc,hcc,←l0,df]) (by rw[axZ,←dO,hc',aAF,←l0',df]) (by rw[axZ];simp only[Ty.size];omega) hx1 hy1 (.inl (by omega)) hq
        simp only[Op.eqFields,hnf,ne_eq,qk,dy,aZ,p1,q1,aV,hr]
        cases p with
        |false=>simp
        |true=>simpa[Op.eqFields] using hi
       |_=>simp[wa] at AQ
    exact key fs.toList 0 _ x y cs kS r (by simp) (λe=>by rw[←bQ,e] at h2;simp at h2) (λf hf=>hnb f (by simpa using hf)) AQ rfl rfl rfl (by simp[cA]) hx hy (.inr ⟨by rw[bQ];omega,hd⟩) he
theorem amy (hT:kh P Θ=true) {op:BinOp} {T:TypeId} {x y:Operand} {p q r:TV} {u v:Value} {cs kS:List Value} (hp:a6 p.t u cs) (hq:a6 q.t v kS) (kp:K w (λ_=>False) p.t p.x cs) (kq:K w (λ_=>False) q.t q.x kS) (hi:p.t=.bool∨isAgg p.t=true->Θ.is T p.t=true) (e:xA op p q=some (true,r)): ∃ z,((do eqGuard op T x y u v;binOp op T u v):Sem Value).run P w=.ok z w/\Holds w A H tm S (λ_=>False) (.v r []) z:=by
 unfold xA at e;split at e
 ·rename_i k _ x0 k' _ y0;split at e
  ·rename_i hk;obtain rfl:=lg hp kp;obtain rfl:=lg hq kq;obtain⟨z,h1,h2⟩:=apZ (P:=P) (w:=w) (A:=A) (H:=H) (tm:=tm) (S:=S) T hk e;exact⟨z,by rw[eqGuard_at_int];simpa using h1,h2⟩
  cases e
 ·obtain rfl:=qD hp kp;obtain rfl:=qD hq kq;obtain⟨z,h1,h2⟩:=ap0 (P:=P) (w:=w) (A:=A) (H:=H) (tm:=tm) (S:=S) T e;exact⟨z,by rw[eqGuard_at_string];simpa using h1,h2⟩
 ·obtain rfl:=lQ hp kp;obtain rfl:=lQ hq kq;obtain⟨i,h1,h2⟩:=ph (hi (.inl rfl));obtain⟨_,hu,h3⟩:=kV hT h1;have QZ:=Vf hu h2;rw[h3] at QZ;split at e
  ·injection e with e;injection e with _ e;subst e;refine⟨_,?_,kW _⟩;rw[eqGuard_at_bool];simp[binOp,Op.equal,Op.maxDepth,vk w 9999 T _ _ QZ]
  ·injection e with e;injection e with _ e;subst e;refine⟨_,?_,kW _⟩;rw[eqGuard_at_bool];simp[binOp,Op.equal,Op.maxDepth,vk w 9999 T _ _ QZ]
  cases e
 ·rename_i t t' _ x0 t2 _ y0;split at e
  ·rename_i ht;subst ht;have hTT:=hi (.inr rfl);obtain⟨i,h1,h2⟩:=ph hTT;obtain⟨lT,hu,h3⟩:=kV hT h1;obtain⟨fs,hfs,_,_,hg,_,_⟩:=Ii hu h2;rw[h3] at hg;have eu:=Q0 rfl hp;have ev:=Q0 rfl hq;have rz:(Ty.pair t t').ht<10000:=nJ (show(Ty.pair t t').ht<=9000 from by
    have hs:=aw2 hT h1
    unfold uOK at hs
    rw[ai,h2] at hs
    exact bJ hs.1) (by decide)
   split at e
   ·rename_i r0 h0;injection e with e;injection e with _ e;subst e;have hr:=Vh (P:=P) hT 10000 (.pair t t') hTT h0 hp hq kp kq rz;rw[eu,ev] at hr ⊢;refine⟨_,?_,kW _⟩;simp only[aZ,run_eqGuard_agg (P:=P) w _ T x y _ _ hg,aV,run_eql_struct,hr]
   ·rename_i r0 h0;injection e with e;injection e with _ e;subst e;have hr:=Vh (P:=P) hT 10000 (.pair t t') hTT h0 hp hq kp kq rz;rw[eu,ev] at hr ⊢;refine⟨_,?_,kW _⟩;simp only[aZ,run_eqGuard_agg (P:=P) w _ T x y _ _ hg,aV,run_neq_struct,hr]
   cases e
  cases e
 cases e
theorem afu {op:BinOp} {p q r:TV} {g:Bool} (e:xA op p q=some (g,r)):scalar r.t=true:=by
 unfold xA at e;split at e
 ·split at e
  ·unfold auv at e;split at e<;>first |(injection e with e;injection e with _ e;subst e;rfl) |cases e
  cases e
 ·unfold auw at e;split at e<;>first |(injection e with e;injection e with _ e;subst e;rfl) |cases e
 ·split at e<;>first |(injection e with e;injection e with _ e;subst e;rfl) |cases e
 ·split at e
  ·split at e<;>first |(injection e with e;injection e with _ e;subst e;rfl) |cases e
  cases e
 cases e
theorem LB:∀ (t:Ty) {x y:t.I} {r:Bool},eqV t x y=some r->∀ {z:t.I} {cs:List Value},K w A t z cs->K w' A t z cs
 | .int _,_,_,_,_,_,_,h=>h
 | .bool,_,_,_,_,_,_,h=>h
 | .str,_,_,_,_,_,_,h=>h
 | .unit,_,_,_,_,_,_,h=>h
 | .pair a b,x,y,r,e,z,cs,h=>by
  simp only[eqV] at e;split at e
  ·rename_i p q hp hq;obtain⟨c0,c1,h0,h1,h2⟩:=h;exact⟨c0,c1,h0,LB a hp h1,LB b hq h2⟩
  cases e
 | .sl _,_,_,_,e,_,_,_=>by simp[eqV] at e
 | .ptr _,_,_,_,e,_,_,_=>by simp[eqV] at e
 | .arr _ _,_,_,_,e,_,_,_=>by simp[eqV] at e
 | .mp,_,_,_,e,_,_,_=>by simp[eqV] at e
theorem akp {op:BinOp} {p q:TV} {gr:Bool×TV} (e:xA op p q=some gr) {cs:List Value} (h:K w A p.t p.x cs):K w' A p.t p.x cs:=by
 obtain⟨t,m,x⟩:=p;obtain⟨t',m',y⟩:=q;cases t with
 |int k=>exact h
 |bool=>exact h
 |str=>exact h
 |unit=>exact h
 |pair a b=>
 simp only[xA] at e;split at e;case isFalse=>cases e
 rename_i ht;subst ht;split at e
 ·rename_i hr;exact LB _ hr h
 ·rename_i hr;exact LB _ hr h
 cases e
 |_=>simp[xA] at e
theorem ahu {op:BinOp} {p q:TV} {gr:Bool×TV} (e:xA op p q=some gr) {cs:List Value} (h:K w A q.t q.x cs):K w' A q.t q.x cs:=by
 obtain⟨t,m,x⟩:=p;obtain⟨t',m',y⟩:=q;cases t with
 |pair a b=>
 simp only[xA] at e;split at e;case isFalse=>cases e
 rename_i ht;subst ht;split at e
 ·rename_i hr;exact LB _ hr h
 ·rename_i hr;exact LB _ hr h
 cases e
 |int k=>cases t'<;>first |exact h |(simp[xA] at e;done)
 |bool=>cases t'<;>first |exact h |(simp[xA] at e;done)
 |str=>cases t'<;>first |exact h |(simp[xA] at e;done)
 |_=>simp[xA] at e
theorem ap1 (hT:kh P Θ=true) (h:cY σ w0 W0 Z H S a w) {o:Oper} {op:BinOp} {T T':TypeId} {x y:Operand} (ho:o.op=.binOp op T x y T') (e:aaD Θ S o.dst op T x y=some (true,S')):Df P w0 W0 Z H S' a o.dst w (execOp a.eval o):=by
 unfold aaD at e;split at e
 ·rename_i p q hp hq;obtain⟨cs,h1,h2,_⟩:=qi h hp;obtain⟨kS,h1',h2',_⟩:=qi h hq;have fin:∀ (r:TV),(p.t=.bool∨isAgg p.t=true->Θ.is T p.t=true)->xA op p q=some (true,r)->Df P w0 W0 Z H (S.put o.dst (.v r [])) a o.dst w (execOp a.eval o):=by intro r hi hb;obtain⟨z,h3,h4⟩:=amy (P:=P) (A:=Av σ Z) (H:=H) (tm:=gM a) (S:=S) (x:=x) (y:=y) hT h1 h1' h2 h2' hi hb;have hsc:scalar r.t=true:=afu hb;refine hZ h (v:=z) (λw2=>?_) h4;obtain⟨z2,k3,k4⟩:=amy (w:=w2) (P:=P) (A:=Av σ Z) (H:=H) (tm:=gM a) (S:=S) (x:=x) (y:=y) hT h1 h1' (akp hb h2) (ahu hb h2') hi hb;rw[aa3 hsc h4 k4];simp only[execOp,ho];simp only[aZ] at k3 ⊢;rw[k3];rfl
  split at e
  ·rename_i ht;cases hc:Θ.is T .bool with
   |false=>rw[hc] at e;cases e
   |true=>
   rw[hc] at e;simp only[ab] at e;split at e
   ·rename_i g r hb;injection e with e;injection e with e1 e;subst e e1;exact fin r (λ_=>by rw[ht];exact hc) hb
   cases e
  ·rename_i t t' ht;cases hc:Θ.is T p.t with
   |false=>rw[hc] at e;cases e
   |true=>
   rw[hc] at e;simp only[ab] at e;split at e
   ·rename_i g r hb;injection e with e;injection e with e1 e;subst e e1;exact fin r (λ_=>hc) hb
   cases e
  rename_i n1 n2;split at e
  ·rename_i g r hb;injection e with e;injection e with e1 e;subst e e1;refine fin r (λhh=>?_) hb;rcases hh with hh |hh
   ·exact absurd hh n1
   obtain⟨pt,pm,px⟩:=p;simp only at hh n1 n2;cases pt<;>simp[isAgg] at hh
   ·exact absurd rfl (n2 _ _)
   ·simp[xA] at hb
   simp[xA] at hb
  cases e
 cases e
end Go.Pv
namespace Go.Pv
open List Int IntKind
variable {P:Program} {w w':World} {A A':Nat->Prop} {H:Nat->Value} {tm N':Nat->Value} {S S':St} {σ:Nat->Option Nat} {w0:World} {W0 Z:Nat->Prop} {a:Act} {own:Nat->Prop} {v:Value} {Θ:kR} {dst:Option Nat} {g:Bool}
theorem PA {n:Int} {len:Nat} (h:bp n len=true):0<=n/\n<(len:Int):=by simpa[bp] using h
theorem ap2 (hT:kh P Θ=true) (h:cY σ w0 W0 Z H S a w) {o:Oper} {T:TypeId} {x ix:Operand} (ho:o.op=.index T x ix) (e:afh Θ S o.dst T x ix=some (true,S')):x7 P w0 W0 Z H S' a o.dst w (execOp a.eval o):=by
 unfold afh at e;split at e
 ·rename_i m s n hb hn;cases hc:Θ.is T .str with
  |false=>rw[hc] at e;cases e
  |true=>rw[hc] at e;simp only[ab,ah,aF] at e;obtain⟨e1,e⟩:=e;subst e;obtain⟨b1,b2⟩:=PA e1;obtain⟨cs,h1,h2,_⟩:=qi h hb;have hv:=qD h1 h2;obtain⟨k,hk⟩:=zr h hn;obtain⟨i,hi,rH⟩:=ph hc;obtain⟨_,hu,Tw⟩:=kV hT hi;have QZ:=Nq hu rH;rw[Tw] at QZ;refine jd h (v:=.int .u8 (bt s n)) (λw2 _=>?_) (mF _ _);have gC:n.toNat<s.size:=(by omega);have sj:s[n.toNat]?=some s[n.toNat]:=ByteArray.getElem?_lt' s _ gC;have Rv:bt s n=(s[n.toNat].toNat:Int):=(by unfold bt;rw[jc gC]);simp[execOp,ho,hv,hk,Instr.index,asIntOf,a7 QZ,b1,sj,Rv]
 cases e
theorem pZ {s:Nat} {p:Path} {b:TV} (h:S.ko s p=some b):∃ r ex,S.at s=.v r ex/\(∀ q∈ex,under q p=false)/\dA p r.t r.m r.x=some b:=by
 unfold St.ko at h;split at h
 ·rename_i r ex he;cases hc:ex.all λq=>!under q p with
  |true=>rw[hc] at h;exact⟨r,ex,he,λq hq=>by simpa using aJ.1 hc q hq,h⟩
  |false=>rw[hc] at h;cases h
 cases h
theorem H8:∀ (q:Path) (s:Step) (r:Path),under q (q++s::r)=true
 |[],_,_=>by simp[under]
 | .idx i::q,s,r=>by simp[under];exact H8 q s r
 | .deref::q,s,r=>by simp[under];exact H8 q s r
 | .fst::q,s,r=>by simp[under];exact H8 q s r
 | .snd::q,s,r=>by simp[under];exact H8 q s r
theorem rL {p:Path} {ex:List Path} (h:∀ q∈ex,under q p=false):open_ p ex:=λq hq s r e=>by have:=h q hq;rw[e,H8] at this;cases this
theorem Nt {s:Nat} {p:Path} {b:TV} (h:S.place s p=some b):∃ r ex,S.at s=.v r ex/\(∀ q∈ex,wm q p=false)/\dA p r.t r.m r.x=some b:=by
 unfold St.place at h;split at h
 ·rename_i r ex he;cases hc:ex.all λq=>!wm q p with
  |true=>rw[hc] at h;exact⟨r,ex,he,λq hq=>by simpa using aJ.1 hc q hq,h⟩
  |false=>rw[hc] at h;cases h
 cases h
theorem ap3 (hT:kh P Θ=true) (h:cY σ w0 W0 Z H S a w) {o:Oper} {as:Array Operand} {ts:Array TypeId} (ho:o.op=.call { callee:=.builtin .len,args:=as,argTypes:=ts }) (e:apz Θ S o.dst ts.toList as.toList=some (true,S')):Df P w0 W0 Z H S' a o.dst w (execOp a.eval o):=by
 obtain⟨as⟩:=as;obtain⟨ts⟩:=ts;simp only at e;unfold apz at e;split at e
 ·rename_i x T;split at e
  ·rename_i b hb;cases hc:Θ.is T b.t with
   |false=>rw[hc] at e;cases e
   |true=>
   rw[hc] at e;simp only[ab] at e;split at e
   ·rename_i n hn;injection e with e;injection e with _ e;subst e;have A3:(∃ xs:ByteArray,b.t=.str/\a.eval x=.string xs/\n=(xs.size:Int))∨∃ t X c,∃ m:Nat,b.t=.sl t/\a.eval x=.slice X m c/\n=(m:Int):=by
     obtain⟨bt,bm,bx⟩:=b;unfold awV at hn;split at hn
     ·rename_i t m xs heq;cases heq;injection hn with hn;right;split at hb
      ·rename_i b' ex pL;cases hx:ex.any List.isEmpty with
       |true=>rw[hx] at hb;cases hb
       |false=>
       rw[hx] at hb;simp only[ae,ah] at hb;subst hb;obtain⟨cs,h1,h2⟩:=eH h pL;simp only[M] at h2;rcases h2 with⟨wj,_⟩ |⟨_,h2⟩ |⟨T',tag,me,X,c,_,rfl,_⟩
       ·have:ex.any List.isEmpty=true:=dk.2 ⟨[],wj,rfl⟩;rw[hx] at this;cases this
       ·obtain⟨X,c,hv,_⟩:=Ij h1 h2;exact⟨_,X,c,_,rfl,hv,hn.symm⟩
       exact⟨_,X,c,_,rfl,by simpa[a6,isAgg] using h1.symm,hn.symm⟩
      ·rename_i t0 s0 p0 pL;split at hb
       ·rename_i b' hpl;injection hb with hb;subst hb;obtain⟨cs,h1,h2,_⟩:=Pz (av:=.al t0 s0 p0) h (eH h pL) (by simpa[St.QV] using hpl);obtain⟨X,c,hv,_⟩:=Ij h1 h2;exact⟨_,X,c,_,rfl,hv,hn.symm⟩
       split at hb
       ·rename_i t1 m1 xs1 Zh;injection hb with hb;cases hb;obtain⟨r,kI,cs,hr,Da,hm⟩:=eH h pL;obtain⟨ex,b2,kS,ow0,j1,j2,j3,j4,hM,j5,j6,j7⟩:=vd h hr;rw[Da] at j5;injection j5 with j5;subst j5;obtain⟨r2,ex2,q1,q2,q3⟩:=pZ Zh;rw[j1] at q1;injection q1 with q1 q1';subst q1 q1';rw[j3] at q3;injection q3 with q3;subst q3;simp only at j4;subst j4;simp only[M] at j7;rcases j7 with⟨_,_,X,c,rfl⟩ |⟨_,h2⟩ |⟨T',tag,me,X,c,_,rfl,_⟩
        ·exact⟨_,X,c,_,rfl,by simpa[a6,isAgg] using hm.symm,hn.symm⟩
        ·obtain⟨X,c,hv,_⟩:=Ij hm h2;exact⟨_,X,c,_,rfl,hv,hn.symm⟩
        exact⟨_,X,c,_,rfl,by simpa[a6,isAgg] using hm.symm,hn.symm⟩
       cases hb
      ·rename_i a' _ _ pL;obtain⟨cs,h1,h2,_⟩:=Pz h (eH h pL) hb;obtain⟨X,c,hv,_⟩:=Ij h1 h2;exact⟨_,X,c,_,rfl,hv,hn.symm⟩
      cases hb
     ·rename_i m xs heq;cases heq;injection hn with hn;left;split at hb
      ·rename_i b' ex pL;cases hx:ex.any List.isEmpty with
       |true=>rw[hx] at hb;cases hb
       |false=>rw[hx] at hb;simp only[ae,ah] at hb;subst hb;obtain⟨cs,h1,h2⟩:=eH h pL;simp only[M] at h2;exact⟨_,rfl,qD h1 h2.2,hn.symm⟩
      ·rename_i t0 s0 p0 pL;split at hb
       ·rename_i b' hpl;injection hb with hb;subst hb;obtain⟨cs,h1,h2,_⟩:=Pz (av:=.al t0 s0 p0) h (eH h pL) (by simpa[St.QV] using hpl);exact⟨_,rfl,qD h1 h2,hn.symm⟩
       split at hb
       ·injection hb with hb;cases hb
       cases hb
      ·rename_i a' _ _ pL;obtain⟨cs,h1,h2,_⟩:=Pz h (eH h pL) hb;exact⟨_,rfl,qD h1 h2,hn.symm⟩
      cases hb
     cases hn
    obtain⟨i,hi,rH⟩:=ph hc;obtain⟨_,hu,Tw⟩:=kV hT hi;rcases A3 with⟨xs,ht,hv,rfl⟩ |⟨t,X,c,m,ht,hv,rfl⟩
    ·have QZ:=Nq hu (rH.trans ht);rw[Tw] at QZ;refine hZ h (v:=.int .i64 xs.size) (λw2=>?_) (mF _ _);simp[execOp,ho,hv,resolve,invoke,builtin,Builtin.len_,a7 QZ,goInt]
    have QZ:=(F9 hu (rH.trans ht)).1;rw[Tw] at QZ;refine hZ h (v:=.int .i64 m) (λw2=>?_) (mF _ _);simp[execOp,ho,hv,resolve,invoke,builtin,Builtin.len_,a7 QZ,goInt]
   cases e
  cases e
 cases e
theorem auP (h:cY σ w0 W0 Z H S a w) {o:Oper} {c x y:Operand} (ho:o.op=.pick c x y) (e:aj3 Θ S o.dst o.type c x y=some (true,S')):x7 P w0 W0 Z H S' a o.dst w (execOp a.eval o):=by
 unfold aj3 at e;split at e
 ·rename_i m q hq;obtain⟨cs,h1,h2,_⟩:=qi h hq;have hv:=lQ h1 h2;have iu:∀ w2,Ext w w2->(execOp a.eval o).run P w2=.ok (.value (if q=true then a.eval x else a.eval y)) w2:=λw2 _=>by simp only[execOp,ho,hv,asBool];rfl
  split at e
  ·rename_i m1 x1 e1 m2 y1 e2 hx hy;injection e with e;injection e with _ e;subst e;refine jd h iu ?_;obtain⟨c1,k1,k2⟩:=eH h hx;obtain⟨c2,k3,k4⟩:=eH h hy;simp only[M] at k2 k4;have:=lQ k1 k2.2;have:=lQ k3 k4.2;cases q<;>simp_all<;>exact kW _
  ·rename_i p r wj hx hy;cases q with
   |true=>
   simp only[ab] at e;split at e
   ·rename_i av pL;injection e with e;injection e with _ e;subst e;exact jd h (λw2 hw=>by simpa using iu w2 hw) (Ns h hx pL)
   cases e
   |false=>
   simp only[ae] at e;split at e
   ·rename_i av pL;injection e with e;injection e with _ e;subst e;exact jd h (λw2 hw=>by simpa using iu w2 hw) (Ns h hy pL)
   cases e
  cases e
 cases e
end Go.Pv
namespace Go.Pv
open List Int IntKind
variable {P:Program} {w w':World} {A A':Nat->Prop} {H:Nat->Value} {tm N':Nat->Value} {S S':St} {σ:Nat->Option Nat} {w0:World} {W0 Z:Nat->Prop} {a:Act} {own:Nat->Prop} {v:Value} {Θ:kR} {dst:Option Nat}
theorem tE:∀ (p q:Path) (t:Ty) (m:Md) (x:t.I),dA (p++q) t m x=(dA p t m x).bind λb=>dA q b.t b.m b.x
 |[],q,t,m,x=>rfl
 | .deref::p,q,t,m,x=>by cases t<;>simp only[bD,dA,gd]<;>exact tE p q _ _ _
 | .fst::p,q,t,m,x=>by cases t<;>simp only[bD,dA,gd]<;>exact tE p q _ _ _
 | .snd::p,q,t,m,x=>by cases t<;>simp only[bD,dA,gd]<;>exact tE p q _ _ _
 | .idx i::p,q,t,m,x=>by cases t<;>simp only[bD,dA,gd]<;>exact tE p q _ _ _
theorem tX:∀ (p q:Path) {t:Ty} {m:Md} {x:t.I} {b:TV},dA p t m x=some b->valid p t x->valid q b.t b.x->valid (p++q) t x
 |[],q,t,m,x,b,hg,_,h=>by simp only[dA,ah] at hg;subst hg;exact h
 | .deref::p,q,.ptr t,m,x,b,hg,h1,h2=>by simp only[dA] at hg;simp only[valid] at h1;simp only[bD,valid];exact tX p q hg h1 h2
 | .fst::p,q,.pair _ _,m,x,b,hg,h1,h2=>by simp only[dA] at hg;simp only[valid] at h1;simp only[bD,valid];exact tX p q hg h1 h2
 | .snd::p,q,.pair _ _,m,x,b,hg,h1,h2=>by simp only[dA] at hg;simp only[valid] at h1;simp only[bD,valid];exact tX p q hg h1 h2
 | .idx i::p,q,.sl t,m,x,b,hg,h1,h2=>by simp only[dA] at hg;simp only[valid] at h1;simp only[bD,valid];exact⟨h1.1,tX p q hg h1.2 h2⟩
theorem Zi (cs:List Value):(∃ g off,cs=[.pointer (some ⟨g,off,none⟩)])∨((∀ (w:World) (p:Path) (t:Ty),cz w (.deref::p) (.ptr t) cs=none)/\∀ (w:World) (p:Path) (t:Ty) (l:Option (Nat×Nat)),addrAt w (.deref::p) (.ptr t) cs l=none):=by
 rcases cs with _ |⟨v,_ |⟨_,_⟩⟩
 ·exact .inr ⟨λ_ _ _=>rfl,λ_ _ _ _=>rfl⟩
 ·cases v<;>try exact .inr ⟨λ_ _ _=>rfl,λ_ _ _ _=>rfl⟩
  rename_i x;rcases x with _ |⟨g,off,_ |_⟩
  ·exact .inr ⟨λ_ _ _=>rfl,λ_ _ _ _=>rfl⟩
  ·exact .inl ⟨g,off,rfl⟩
  exact .inr ⟨λ_ _ _=>rfl,λ_ _ _ _=>rfl⟩
 cases v<;>try exact .inr ⟨λ_ _ _=>rfl,λ_ _ _ _=>rfl⟩
 rename_i x;rcases x with _ |⟨g,off,_ |_⟩<;>exact .inr ⟨λ_ _ _=>rfl,λ_ _ _ _=>rfl⟩
theorem aec (cs:List Value):(∃ g off n c,cs=[.slice (some ⟨g,off,none⟩) n c])∨((∀ (w:World) (i:Nat) (p:Path) (t:Ty),cz w (.idx i::p) (.sl t) cs=none)/\∀ (w:World) (i:Nat) (p:Path) (t:Ty) (l:Option (Nat×Nat)),addrAt w (.idx i::p) (.sl t) cs l=none):=by
 rcases cs with _ |⟨v,_ |⟨_,_⟩⟩
 ·exact .inr ⟨λ_ _ _ _=>rfl,λ_ _ _ _ _=>rfl⟩
 ·cases v<;>try exact .inr ⟨λ_ _ _ _=>rfl,λ_ _ _ _ _=>rfl⟩
  rename_i x n c;rcases x with _ |⟨g,off,_ |_⟩
  ·exact .inr ⟨λ_ _ _ _=>rfl,λ_ _ _ _ _=>rfl⟩
  ·exact .inl ⟨g,off,n,c,rfl⟩
  exact .inr ⟨λ_ _ _ _=>rfl,λ_ _ _ _ _=>rfl⟩
 cases v<;>try exact .inr ⟨λ_ _ _ _=>rfl,λ_ _ _ _ _=>rfl⟩
 rename_i x n c;rcases x with _ |⟨g,off,_ |_⟩<;>exact .inr ⟨λ_ _ _ _=>rfl,λ_ _ _ _ _=>rfl⟩
theorem tY:∀ (p q:Path) {t:Ty} {m:Md} {x:t.I} {b:TV} (cs:List Value) (l:Option (Nat×Nat)),dA p t m x=some b-> cz w (p++q) t cs=(cz w p t cs).bind (cz w q b.t)/\addrAt w (p++q) t cs l=(cz w p t cs).bind λc=>addrAt w q b.t c (addrAt w p t cs l)
 |[],q,t,m,x,b,cs,l,hg=>by simp only[dA,ah] at hg;subst hg;exact⟨rfl,rfl⟩
 | .fst::p,q,.pair a' b',m,x,b,cs,l,hg=>by simp only[dA] at hg;simp only[bD,cz,addrAt];exact tY p q _ _ hg
 | .snd::p,q,.pair a' b',m,x,b,cs,l,hg=>by simp only[dA] at hg;simp only[bD,cz,addrAt];exact tY p q _ _ hg
 | .deref::p,q,.ptr t,m,x,b,cs,l,hg=>by
  simp only[dA] at hg;have ih:=λc l'=>tY p q c l' hg;rw[bD];rcases Zi cs with⟨g,off,rfl⟩ |⟨h1,h2⟩
  ·simp only[cz,addrAt];cases hr:rowAt w g off t.size with
   |none=>simp
   |some c=>simp only[aI];exact ih c _
  simp only[h1,h2,gd,and_self]
 | .idx i::p,q,.sl t,m,x,b,cs,l,hg=>by
  simp only[dA] at hg;have ih:=λc l'=>tY p q c l' hg;rw[bD];rcases aec cs with⟨g,off,n,c,rfl⟩ |⟨h1,h2⟩
  ·simp only[cz,addrAt];cases hr:rowAt w g (off+i*t.size) t.size with
   |none=>simp
   |some c=>simp only[aI];exact ih c _
  simp only[h1,h2,gd,and_self]
theorem LC {g off n:Nat} {cs:List Value} (h:rowAt w g off n=some cs):cs.length=n/\∃ cur T fr,w.heap[g]?=some (.cells cur T fr)/\off+n<=cur.size/\cs=(cur.toList.drop off).take n:=by
 unfold rowAt at h;split at h
 ·rename_i cur T fr hw;split at h
  ·rename_i hl;injection h with h;subst h;refine⟨by simp;omega,cur,T,fr,hw,hl,rfl⟩
  cases h
 cases h
theorem aa6 {g off n a b:Nat} {cs:List Value} (h:rowAt w g off n=some cs) (hab:a+b<=n):rowAt w g (off+a) b=some ((cs.drop a).take b):=by obtain⟨_,cur,T,fr,hw,hl,rfl⟩:=LC h;rw[eG hw (by omega),iE,nk,dO,kQ (by omega)]
theorem PB:∀ (p:Path) {t:Ty} {m:Md} {x:t.I} {b:TV} {cs kS:List Value} {l:Option (Nat×Nat)} {g off:Nat},dA p t m x=some b->cs.length=t.size->(∀ g o,l=some (g,o)->rowAt w g o t.size=some cs)-> cz w p t cs=some kS->addrAt w p t cs l=some (g,off)->rowAt w g off b.t.size=some kS
 |[],t,m,x,b,cs,kS,l,g,off,hg,hl,hr,hc,ha=>by simp only[dA,ah] at hg;subst hg;simp only[cz,ah] at hc;subst hc;exact hr g off ha
 | .fst::p,.pair a' b',m,x,b,cs,kS,l,g,off,hg,hl,hr,hc,ha=>by simp only[dA] at hg;simp only[cz] at hc;simp only[addrAt] at ha;simp only[Ty.size] at hl hr;refine PB p hg (by rw[aH];omega) (λg o e=>?_) hc ha;have:=aa6 (a:=0) (b:=a'.size) (hr g o e) (by omega);rw[dM,dJ] at this;exact this
 | .snd::p,.pair a' b',m,x,b,cs,kS,l,g,off,hg,hl,hr,hc,ha=>by
  simp only[dA] at hg;simp only[cz] at hc;simp only[addrAt] at ha;simp only[Ty.size] at hl hr;refine PB p hg (by rw[aX];omega) (λg o e=>?_) hc ha;cases l with
  |none=>simp at e
  |some q=>simp only[aP,ah,aF] at e;obtain⟨rfl,rfl⟩:=e;have:=aa6 (a:=a'.size) (b:=b'.size) (hr q.1 q.2 rfl) (by omega);rw[cw (by rw[aX];omega)] at this;exact this
 | .deref::p,.ptr t,m,x,b,cs,kS,l,g,off,hg,hl,hr,hc,ha=>by
  simp only[dA] at hg;rcases Zi cs with⟨g1,ax0,rfl⟩ |⟨h1,h2⟩
  ·simp only[cz] at hc;simp only[addrAt] at ha;cases wu:rowAt w g1 ax0 t.size with
   |none=>rw[wu] at hc;simp at hc
   |some c=>rw[wu] at hc ha;simp only[aI] at hc ha;exact PB p hg (LC wu).1 (λg o e=>by injection e with e;injection e with e1 e2;subst e1 e2;exact wu) hc ha
  rw[h1] at hc;cases hc
 | .idx i::p,.sl t,m,x,b,cs,kS,l,g,off,hg,hl,hr,hc,ha=>by
  simp only[dA] at hg;rcases aec cs with⟨g1,ax0,n,c1,rfl⟩ |⟨h1,h2⟩
  ·simp only[cz] at hc;simp only[addrAt] at ha;cases wu:rowAt w g1 (ax0+i*t.size) t.size with
   |none=>rw[wu] at hc;simp at hc
   |some c=>rw[wu] at hc ha;simp only[aI] at hc ha;exact PB p hg (LC wu).1 (λg o e=>by injection e with e;injection e with e1 e2;subst e1 e2;exact wu) hc ha
  rw[h1] at hc;cases hc
theorem aa7 (hT:kh P Θ=true) {T:TypeId} {t:Ty} {g off:Nat} {cs:List Value} (ht:Θ.is T t=true) (h:rowAt w g off t.size=some cs): ∃ v,(∀ w2,Ext w w2->(Instr.loadAt T (.pointer (some ⟨g,off,none⟩))).run P w2=.ok v w2)/\a6 t v cs:=by
 suffices hs:∀ w2,Ext w w2->∃ v,(Instr.loadAt T (.pointer (some ⟨g,off,none⟩))).run P w2=.ok v w2/\a6 t v cs by
  obtain⟨v,_,h2⟩:=hs w (Ext.refl w);refine⟨v,λw2 hw=>?_,h2⟩;obtain⟨v',k1,k2⟩:=hs w2 hw;rw[k1];unfold a6 at h2 k2;split at h2
  ·rename_i ha;rw[ay ha] at k2;rw[h2,k2]
  rename_i ha;rw[ar ha] at k2;rw[h2] at k2;injection k2 with k2;rw[k2]
 intro w2 Nh;have h:rowAt w2 g off t.size=some cs:=by obtain⟨_,cur,T',fr,hw,_,_⟩:=LC h;unfold rowAt at h ⊢;rw[Nh g (dh hw)];exact h
 clear Nh;revert h;generalize w2=w;intro h;obtain⟨hl,cur,T',fr,hw,hs,rfl⟩:=LC h;obtain⟨inf,hi,rz,_⟩:=xg hT ht;have SA:∀ j v,((cur.toList.drop off).take t.size)[j]?=some v->w.cell? ((⟨g,off,none⟩:Addr).add j)=some v:=by
  intro j v hj;rw[A6];unfold World.cell?;simp only[hw,Option.isSome_none,Bool.false_eq_true,cT];rw[bM] at hj;split at hj
  ·rw[cr] at hj;simpa using hj
  cases hj
 have aC9:=akn hT ht w;simp only[Instr.loadAt,Instr.sureAddr,loadVar,aZ,cW,aV,aC9];cases hb:isAgg t with
 |true=>refine⟨.agg ((cur.toList.drop off).take t.size).toArray,?_,by simp[a6,hb]⟩;have hlc:=n5 (P:=P) (w:=w) ⟨g,off,none⟩ _ SA;rw[hl] at hlc;simp only[dy,aZ,sizeOf,typeInfo,qV,aV,hi,cW,rz,hlc]
 |false=>
 have h1:t.size=1:=by cases t<;>simp[isAgg] at hb<;>rfl
 rw[h1] at hl SA ⊢;obtain⟨u,hu⟩:∃ u,(cur.toList.drop off).take 1=[u]:=by
  cases hx:(cur.toList.drop off).take 1 with
  |nil=>rw[hx] at hl;simp at hl
  |cons u r=>
  rw[hx] at hl;cases r with
  |nil=>exact⟨u,rfl⟩
  |cons _ _=>simp at hl
 refine⟨u,?_,by simp[a6,hb,hu]⟩;have:=SA 0 u (by rw[hu];rfl);rw[Addr.add_zero'] at this;simp[load,Sem.run,this]
end Go.Pv
namespace Go.Pv
open List Int IntKind
variable {P:Program} {w w':World} {A A':Nat->Prop} {H:Nat->Value} {tm N':Nat->Value} {S S':St} {σ:Nat->Option Nat} {w0:World} {W0 Z:Nat->Prop} {a:Act} {own:Nat->Prop} {v:Value} {Θ:kR} {dst:Option Nat}
def amz (w:World) (A:Nat->Prop) (tm:Nat->Value) (S:St):Tgt->Value->Prop
 | .k b,v=>∃ cs,a6 (.ptr b.t) v cs/\K w A (.ptr b.t) b.x cs
 | .pl t s p,v=>∃ r ex,S.at s=.v r ex/\(open_ p ex->∃ kI g off,Ref tm S t s p r kI/\addrAt w p r.t kI none=some (g,off)/\v=.pointer (some ⟨g,off,none⟩))
theorem ap4 (h:cY σ w0 W0 Z H S a w) {i:Nat} {t:Ty} {T:TypeId} {tag:Option Nat} {me:Md} {y:t.I} {ex:List Path} (hi:S.at i=.v ⟨.ptr t,.o T tag me,y⟩ ex): amz w (Av σ Z) (gM a) S (.pl t i [.deref]) (gM a i):=by
 refine⟨_,ex,hi,λho=>?_⟩;have hh:=h.holds i;rw[hi] at hh;obtain⟨cs,h1,h2⟩:=hh;simp only[M] at h2;rcases h2 with⟨hn,_⟩ |⟨hk,_⟩ |⟨T',ap5,me',g,cur,e,rfl,ht,hg,hw,hM⟩
 ·exact absurd hn ho.not_nil
 ·simp[Md.eY] at hk
 have hlen:=(rB t hM).1;refine⟨_,g,0,⟨⟨ex,hi,ho⟩,trivial,⟨_,rfl,rfl⟩,h1⟩,?_,by simpa[a6,isAgg] using h1.symm⟩;have hs:0+t.size<=cur.size:=by rw[←hlen];simp
 simp only[addrAt,eG hw hs,aI]
theorem aou {p q:Path} {ex:List Path} (h:open_ (p++q) ex):open_ p ex:=λr hr s u e=>h r hr s (u++q) (by rw[e];simp)
theorem Vi {p:Path} {s:Step} {q:Path} {ex:List Path} (h:open_ (p++s::q) ex):[]∉U3 p ex:=λhm=>by have:=aaG.1 hm;rw[b6] at this;exact h p this s q rfl
theorem PC (h:cY σ w0 W0 Z H S a w) {T:TypeId} {x:Operand} {av:AV} {g:Tgt} (ho:S.pJ Θ T x=some av) (e:S.Tj x av=some g):amz w (Av σ Z) (gM a) S g (a.eval x):=by
 have hh:=eH h ho;have LD:∀ {t:Ty} {T:TypeId} {tag:Option Nat} {me:Md} {y:t.I} {ex:List Path} {i:Nat},av=.v ⟨.ptr t,.o T tag me,y⟩ ex->x=.tmp i->amz w (Av σ Z) (gM a) S (.pl t i [.deref]) (a.eval x):=by intro t T tag me y ex i e1 e2;subst e2;simp only[St.pJ,ah] at ho;rw[e1] at ho;exact ap4 h ho
 unfold St.Tj at e;split at e
 ·rename_i t m y;split at e
  ·injection e with e;subst e;obtain⟨cs,h1,h2⟩:=hh;exact⟨cs,h1,tD _ rfl h2⟩
  ·injection e with e;subst e;exact LD rfl rfl
  cases e
 ·split at e
  ·injection e with e;subst e;exact LD rfl rfl
  cases e
 ·rename_i t s p;obtain⟨r,kI,cs,hr,hc,hm⟩:=hh;split at e
  ·rename_i t' y Zh;injection e with e;subst e;obtain⟨ex,b,kS,kH,k1,k2,k3,k4,hM,k5,k6,k7⟩:=vd h hr;obtain⟨r',ZR,q1,q2,q3⟩:=pZ Zh;rw[k1] at q1;injection q1 with q1 q1';subst q1 q1';rw[k3] at q3;injection q3 with q3;subst q3;rw[k5] at hc;injection hc with hc;subst hc;simp only at k4;rw[←k4] at hm;exact⟨_,hm,tD _ rfl k7⟩
  ·rename_i t' T' ap5 me' y Zh;injection e with e;subst e;obtain⟨ex,b,kS,kH,k1,k2,k3,k4,hM,k5,k6,k7⟩:=vd h hr;obtain⟨r',ZR,q1,q2,q3⟩:=pZ Zh;rw[k1] at q1;injection q1 with q1 q1';subst q1 q1';rw[k3] at q3;injection q3 with q3;subst q3;rw[k5] at hc;injection hc with hc;subst hc;simp only at k4;injection k4 with k4;subst k4;refine⟨r,ex,k1,λfp=>?_⟩;simp only[M] at k7;rcases k7 with⟨hn,_⟩ |⟨hk,_⟩ |⟨T',ap5,me',g,cur,e,rfl,ht,hg,hw,hM'⟩
   ·exact absurd hn (Vi fp)
   ·simp[Md.eY] at hk
   have hlen:=(rB _ hM').1;have hs:0+Ty.size t'<=cur.size:=(by rw[←hlen];simp);refine⟨kI,g,0,⟨⟨ex,k1,fp⟩,tX p [.deref] k3 hr.val trivial,⟨_,by rw[tE,k3];rfl,rfl⟩,hr.mat⟩,?_,by simpa[a6,isAgg] using hm.symm⟩;rw[(tY p [.deref] kI none k3).2,k5];simp only[aI,addrAt,eG hw hs]
  cases e
 ·rename_i t s p;injection e with e;subst e;obtain⟨r,kI,g,off,hr,hc,hm⟩:=hh;obtain⟨ex,k1,k2⟩:=hr.at_;exact⟨r,ex,k1,λ_=>⟨kI,g,off,hr,hc,hm⟩⟩
 cases e
theorem ahv (h:cY σ w0 W0 Z H S a w) {o:Oper} {x:Operand} (ho:o.op=.nilCheck x) (e:Tl Θ S o.dst x=some (true,S')):x7 P w0 W0 Z H S' a o.dst w (execOp a.eval o):=by
 unfold Tl at e;split at e
 ·rename_i av pL;split at e
  ·rename_i g hg;split at e
   ·rename_i r _ hr Zh;injection e with e;injection e with _ e;subst e;have hc:=Ns h pL hr;have hl:=PC h pL hg;have hp:(∃ ad,a.eval x=.pointer (some ad)):=by
     cases g with
     |k b=>obtain⟨cs,h1,h2⟩:=hl;simp only[K] at h2;obtain⟨g,off,cur,T,fr,rfl,_⟩:=h2;exact⟨_,by simpa[a6,isAgg] using h1.symm⟩
     |pl t s p=>
     obtain⟨r',ex,k1,k2⟩:=hl;simp only at Zh;split at Zh
     ·rename_i b hb;obtain⟨r2,ex2,q1,q2,q3⟩:=pZ hb;rw[k1] at q1;injection q1 with q1 q1';subst q1 q1';obtain⟨kI,g,off,_,_,e3⟩:=k2 (rL q2);exact⟨_,e3⟩
     cases Zh
    obtain⟨ad,hp⟩:=hp;exact jd h (v:=a.eval x) (λw2 _=>by simp only[execOp,ho,hp];rfl) hc
   cases e
  cases e
 cases e
theorem ahw (hT:kh P Θ=true) (h:cY σ w0 W0 Z H S a w) {T:TypeId} {g:Tgt} {r:AV} {v:Value} (hl:amz w (Av σ Z) (gM a) S g v) (e:S.loadAt g=some r) (ht:Θ.is T g.ty=true): ∃ u,(∀ w2,Ext w w2->(Instr.loadAt T v).run P w2=.ok u w2)/\Holds w (Av σ Z) H (gM a) S (λ_=>False) r u:=by
 cases g with
 |k b=>
 simp only[St.loadAt,ah] at e;subst e;obtain⟨cs,h1,h2⟩:=hl;simp only[K] at h2;obtain⟨g,off,cur,T',fr,rfl,hg,hw,hs,hk⟩:=h2;obtain rfl:v=.pointer (some ⟨g,off,none⟩):=by simpa[a6,isAgg] using h1.symm
 obtain⟨u,k1,k2⟩:=aa7 hT ht (eG hw hs);exact⟨u,k1,_,k2,tS _ hk⟩
 |pl t s p=>
 simp only[St.loadAt] at e;obtain⟨r',ex,k1,k2⟩:=hl;split at e
 ·rename_i b hb;obtain⟨r2,ex2,q1,q2,q3⟩:=pZ hb;rw[k1] at q1;injection q1 with q1 q1';subst q1 q1';obtain⟨kI,g,off,hr,ha,rfl⟩:=k2 (rL q2);obtain⟨ZR,b',kS,kH,j1,j2,j3,j4,hM,j5,j6,j7⟩:=vd h hr;rw[k1] at j1;injection j1 with j1 j1';subst j1';rw[q3] at j3;injection j3 with j3;subst j3;subst j4;have wu:=PB p q3 (rB _ hM).1 (λg o e=>by cases e) j5 ha;obtain⟨u,l1,l2⟩:=aa7 hT ht wu;refine⟨u,l1,?_⟩;cases hk:b.m.eY with
  |true=>
  rw[hk] at e;simp only[ab] at e;split at e
  ·rename_i c hc;injection e with e;subst e;obtain⟨_,LF,_,hM2⟩:=np h hr j5 hc;have hcb:c=b:=by obtain⟨r3,ex3,p1,p2,p3⟩:=Nt hc;rw[k1] at p1;injection p1 with p1 p1';subst p1;rw[q3] at p3;injection p3 with p3;exact p3.symm
   subst hcb;exact⟨_,l2,tS _ (tD _ hk hM2)⟩
  cases e
  |false=>rw[hk] at e;simp only[ae,ah] at e;subst e;exact⟨r',kI,kS,hr,j5,l2⟩
 cases e
theorem auQ (hT:kh P Θ=true) (h:cY σ w0 W0 Z H S a w) {o:Oper} {T:TypeId} {x:Operand} (ho:o.op=.load T x) (e:tQ Θ S o.dst T x=some (true,S')):x7 P w0 W0 Z H S' a o.dst w (execOp a.eval o):=by
 unfold tQ at e;split at e
 ·rename_i av pL;split at e
  ·rename_i g hg;split at e
   ·rename_i r hr;have hl:=PC h pL hg;cases hc:(ag' g.ty r&&Θ.is T g.ty) with
    |false=>rw[hc] at e;cases e
    |true=>rw[hc] at e;replace hc:=((ai _ _).mp hc).2;simp only[ab,ah,aF,cl] at e;subst e;obtain⟨u,h1,h2⟩:=ahw hT h hl hr hc;refine jd h (v:=u) (λw2 hw=>?_) h2;simp only[execOp,ho,aZ,h1 w2 hw];rfl
   cases e
  cases e
 cases e
end Go.Pv
namespace Go.Pv
open List Int IntKind
variable {P:Program} {w w':World} {A A':Nat->Prop} {H:Nat->Value} {tm N':Nat->Value} {S S':St} {σ:Nat->Option Nat} {w0:World} {W0 Z:Nat->Prop} {a:Act} {own:Nat->Prop} {v:Value} {Θ:kR} {dst:Option Nat}
theorem A7:∀ (p:Path) {t:Ty} {m:Md} {x:t.I} {b:TV},m.eY=true->dA p t m x=some b->b.m.eY=true
 |[],t,m,x,b,hk,hg=>by simp only[dA,ah] at hg;subst hg;exact hk
 | .deref::p,.ptr t,m,x,b,hk,hg=>by simp only[dA] at hg;exact A7 p (Nf hk) hg
 | .fst::p,.pair _ _,m,x,b,hk,hg=>by simp only[dA] at hg;exact A7 p (aha hk) hg
 | .snd::p,.pair _ _,m,x,b,hk,hg=>by simp only[dA] at hg;exact A7 p (ahb hk) hg
 | .idx i::p,.sl t,m,x,b,hk,hg=>by simp only[dA] at hg;exact A7 p (Nf hk) hg
theorem x8:∀ (p:Path) {t:Ty} {m:Md} {x:t.I} {b:TV},cp p=true->dA p t m x=some b->valid p t x
 |[],_,_,_,_,_,_=>trivial
 | .fst::p,.pair _ _,m,x,b,h,hg=>by simp only[dA] at hg;simp only[valid];exact x8 p (by simpa[cp] using h) hg
 | .snd::p,.pair _ _,m,x,b,h,hg=>by simp only[dA] at hg;simp only[valid];exact x8 p (by simpa[cp] using h) hg
theorem Nu:∀ (p:Path) {t:Ty} {m:Md} {x:t.I} {b:TV},cp p=true->dA p t m x=some b->wa p t=some b.t
 |[],_,_,_,_,_,hg=>by simp only[dA,ah] at hg;subst hg;rfl
 | .fst::p,.pair _ _,m,x,b,h,hg=>by simp only[dA] at hg;simp only[wa];exact Nu p (by simpa[cp] using h) hg
 | .snd::p,.pair _ _,m,x,b,h,hg=>by simp only[dA] at hg;simp only[wa];exact Nu p (by simpa[cp] using h) hg
theorem A8:∀ (p q:Path),cp p=true->cp q=true->cp (p++q)=true
 |[],_,_,h=>h
 | .fst::p,q,h,h'=>by simp only[bD,cp];exact A8 p q (by simpa[cp] using h) h'
 | .snd::p,q,h,h'=>by simp only[bD,cp];exact A8 p q (by simpa[cp] using h) h'
theorem HD:∀ n,cp (List.replicate n .snd)=true
 |0=>rfl
 |n+1=>by rw[List.replicate_succ];simp only[cp];exact HD n
theorem Ac (i n:Nat):cp (JI i n)=true:=by
 unfold JI;cases Nat.beq (i+1) n<;>cases Nat.beq n 1<;>simp only[ab,ae]
 ·exact A8 _ _ (HD _) rfl
 ·exact A8 _ _ (HD _) rfl
 ·exact HD _
 rfl
theorem ax1 {t:Ty} {x:t.I} {p:Path} {b:TV} {cs:List Value} {v:Value} (hm:a6 (.ptr t) v cs) (h:K w A (.ptr t) x cs) (hp:cp p=true) (hg:dA p t .k x=some b): ∃ g off,v=.pointer (some ⟨g,off,none⟩)/\K w A (.ptr b.t) b.x [.pointer (some ⟨g,off+cA p t,none⟩)]:=by
 simp only[K] at h;obtain⟨g,off,cur,T',fr,rfl,hA,hw,hs,hk⟩:=h;refine⟨g,off,by simpa[a6,isAgg] using hm.symm,?_⟩;have hl:=(Fa t hk).1;obtain⟨kS,kH,k1,k2,k3⟩:=focus (w:=w) (Wr:=A) (H:=λ_=>undef) (ow:=λ_=>False) (hs:=[]) p (tS t hk) (λ_ h=>by simp at h) (x8 p hp hg) hg
 rw[rC p hp hg hl] at k1;injection k1 with k1;subst k1;have hf:=qR p hp hg;simp only[K];refine⟨g,off+cA p t,cur,T',fr,rfl,hA,hw,by omega,?_⟩;have:=tD _ (A7 p rfl hg) k3;rw[iE,nk,dO,kQ (by omega)] at this;exact this
theorem Vj {p:Path} {t:Ty} {m:Md} {x:t.I} {b:TV} (hp:p≠[]) (h:cp p=true) (hg:dA p t m x=some b):∃ a' b',t=.pair a' b':=by
 cases p with
 |nil=>exact absurd rfl hp
 |cons s p=>cases s<;>cases t<;>simp_all [dA,cp]
theorem ap6 {i n:Nat} (h:i<n):JI i n≠[]:=by
 unfold JI;cases hb:Nat.beq (i+1) n with
 |false=>simp
 |true=>
 cases hc:Nat.beq n 1 with
 |true=>simp
 |false=>
 simp only[ab,ae];have h1:=aw hb;have h2:=Nat.ne_of_beq_eq_false hc;cases i with
 |zero=>omega
 |succ i=>simp[List.replicate_succ]
theorem Vk (hT:kh P Θ=true) (h:cY σ w0 W0 Z H S a w) {o:Oper} {T:TypeId} {x:Operand} {f:Nat} (ho:o.op=.fieldAddr T x f) (e:wo Θ S o.dst T x f=some (true,S')):Df P w0 W0 Z H S' a o.dst w (execOp a.eval o):=by
 unfold wo at e;split at e
 ·rename_i av i pL hi;cases gC:Nat.blt f i.fs.length with
  |false=>rw[gC] at e;cases e
  |true=>
   rw[gC] at e
   simp only[ab] at e
   have hf:f<i.fs.length:=jC (bJ gC)
   obtain⟨_,hu,Tw⟩:=kV hT hi
   -- the address of the field
   have run:∀ (w2:World) (g off:Nat) (b:TV) (t:Ty) (m:Md) (y:t.I),i.ty=t->dA (JI f i.fs.length) t m y=some b->
     (Instr.fieldAt T (.pointer (some ⟨g,off,none⟩)) f).run P w2=.ok (.pointer (some ⟨g,off+cA (JI f i.fs.length) t,none⟩)) w2:=by
    intro w2 g off b t m y rH hg
    have wj:∃ a' b',i.ty=.pair a' b':=by
     subst rH
     exact Vj (ap6 hf) (Ac _ _) hg
    obtain⟨a',b',hp⟩:=wj
    obtain⟨fs,hfs,XZ,hfo,_⟩:=Ii hu hp
    rw[Tw] at hfs
    have hlen:i.fs.length=fs.size:=by rw[←XZ];simp
    obtain⟨fl,aAH⟩:∃ fl,fs[f]?=some fl:=⟨fs[f]'(by omega),by simp[show f<fs.size from by omega]⟩
    obtain⟨tf,h1,h2,h3,h4⟩:=Ab hfo f fl (by simpa using aAH)
    rw[aW,←hlen] at h1 h3
    subst rH
    rw[Nu _ (Ac _ _) hg] at h1
    injection h1 with h1
    obtain⟨inf,k1,k2,_⟩:=xg hT h2
    simp only[Instr.fieldAt,aZ,a7 hfs,aV,aAH,Instr.sureAddr,cW,fieldPlace,sizeOf,typeInfo,qV,k1,k2]
    rw[ar (by omega)]
    simp only[cW,aV,A6,h3]
   split at e
   ·rename_i t m y hg
    cases rH:decide (i.ty=t) with
    |false=>rw[rH] at e;cases e
    |true=>
     rw[rH] at e
     simp only[ab] at e
     split at e
     ·rename_i b hb
      injection e with e;injection e with _ e;subst e
      obtain⟨cs,h1,h2⟩:=PC h pL hg
      obtain⟨g',off,hv,hk⟩:=ax1 h1 h2 (Ac _ _) hb
      refine hZ h (v:=.pointer (some ⟨g',off+cA (JI f i.fs.length) t,none⟩)) (λw2=>?_) ⟨[_],by simp[a6,isAgg],tS (.ptr b.t) hk⟩
      simp only[execOp,ho,hv,aZ,run w2 g' off b t .k y (by simpa using rH) hb]
      rfl
     ·cases e
   ·rename_i t s p hg
    cases rH:decide (i.ty=t) with
    |false=>rw[rH] at e;cases e
    |true=>
     rw[rH] at e
     simp only[ab] at e
     split at e
     ·rename_i b hb
      injection e with e;injection e with _ e;subst e
      obtain⟨r,ex,k1,k2⟩:=PC h pL hg
      obtain⟨r2,ex2,q1,q2,q3⟩:=pZ hb
      rw[k1] at q1
      injection q1 with q1 q1'
      subst q1 q1'
      have fp:=rL q2
      obtain⟨kI,g',off,hr,ha,hv⟩:=k2 (aou fp)
      obtain⟨ZR,b',kS,kH,j1,j2,j3,j4,hM,j5,j6,j7⟩:=vd h hr
      rw[tE,j3] at q3
      simp only[aI] at q3
      refine hZ h (v:=.pointer (some ⟨g',off+cA (JI f i.fs.length) t,none⟩)) (λw2=>?_) ⟨r,kI,g',off+cA (JI f i.fs.length) t,⟨⟨ex,k1,fp⟩,tX p _ j3 hr.val (x8 _ (Ac _ _) q3),⟨b,by rw[tE,j3];exact q3,rfl⟩,hr.mat⟩,?_,rfl⟩
      ·subst j4
       simp only[execOp,ho,hv,aZ,run w2 g' off b b'.t b'.m b'.x (by simpa using rH) q3]
       rfl
      ·rw[(tY p _ kI none j3).2,j5,ha]
       simp only[aI]
       rw[AW _ (Ac _ _) q3,j4]
     ·cases e
   ·cases e
 cases e
theorem amA {α:Type} (xs:List α) (i:Nat) (d:α) (h:i<xs.length):getD xs i d=xs[i]:=by simp[aG,aN h]
theorem JQ (hT:kh P Θ=true) {T:TypeId} {t:Ty} {g off len c:Nat} {k:IntKind} {n:Int} (ht:Θ.is T (.sl t)=true) (h0:0<=n) (h1:n<(len:Int)): (Instr.indexAt T (.slice (some ⟨g,off,none⟩) len c) (.int k n)).run P w=.ok (.pointer (some ⟨g,off+n.toNat*t.size,none⟩)) w:=by obtain⟨i,hi,rH⟩:=ph ht;obtain⟨_,hu,Tw⟩:=kV hT hi;obtain⟨u1,u2,_⟩:=F9 hu rH;rw[Tw] at u1;obtain⟨inf,k1,k2,_⟩:=xg hT u2;simp[Instr.indexAt,asIntOf,a7 u1,h0,h1,sizeOf,typeInfo,qV,k1,k2,A6]
theorem ap7 {t:Ty} {xs:List t.I} {v:Value} {cs:List Value} {n:Nat} (hm:a6 (.sl t) v cs) (h:K w A (.sl t) xs cs) (hn:n<xs.length): ∃ g off c,v=.slice (some ⟨g,off,none⟩) xs.length c/\K w A (.ptr t) (getD xs n t.z) [.pointer (some ⟨g,off+n*t.size,none⟩)]:=by
 simp only[K] at h;obtain⟨X,c,rfl,hc,h⟩:=h;obtain⟨g,off,cur,T',fr,rfl,hA,hw,hs,hk⟩:=h (by omega);refine⟨g,off,c,by simpa[a6,isAgg] using hm.symm,?_⟩;simp only[K];have hb:off+n*t.size+t.size<=cur.size:=by have:=aC t.size (show n+1<=xs.length from hn);rw[bc,cH] at this;omega
 exact⟨g,_,cur,T',fr,rfl,hA,hw,hb,by rw[amA _ _ _ hn];exact hk n hn⟩
theorem Vl (hT:kh P Θ=true) (h:cY σ w0 W0 Z H S a w) {o:Oper} {T:TypeId} {x ix:Operand} (ho:o.op=.indexAddr T x ix) (e:iG Θ S o.dst T x ix=some (true,S')):Df P w0 W0 Z H S' a o.dst w (execOp a.eval o):=by
 unfold iG at e;split at e
 ·rename_i t m xs ex n pL hn;obtain⟨k,hk⟩:=zr h hn;cases hc:Θ.is T (.sl t) with
  |false=>rw[hc] at e;cases e
  |true=>
  rw[hc] at e;simp only[ab] at e;split at e
  ·injection e with e;injection e with e1 e;subst e;obtain⟨b1,b2⟩:=PA e1;obtain⟨cs,h1,h2⟩:=eH h pL;have hK:=tD _ rfl h2;obtain⟨g,off,c,hv,hk2⟩:=ap7 (n:=n.toNat) h1 hK (by have b2':n<(length xs:Int):=b2;show n.toNat<length xs;omega);refine hZ h (v:=.pointer (some ⟨g,off+n.toNat*t.size,none⟩)) (λw2=>?_) ⟨[_],by simp[a6,isAgg],tS (.ptr t) hk2⟩;simp only[execOp,ho,hv,hk,aZ,JQ hT hc b1 b2];rfl
  ·rename_i T' tag me j;split at e
   ·rename_i b hb;injection e with e;injection e with e1 e;subst e;obtain⟨b1,b2⟩:=PA e1;have nI:S.at j=.v ⟨.sl t,.o T' tag me,xs⟩ ex:=by simpa[St.pJ] using pL
    obtain⟨r2,ex2,q1,q2,q3⟩:=pZ hb;rw[nI] at q1;injection q1 with q1 q1';subst q1 q1';have fp:=rL q2;obtain⟨cs,h1,h2⟩:=eH h pL;simp only[M] at h2;rcases h2 with⟨wj,_⟩ |⟨uH,_⟩ |⟨T2,ahx,me2,X,c,e2,rfl,hcc,aov,h2⟩
    ·exact absurd wj fp.not_nil
    ·simp[Md.eY] at uH
    have hv:a.eval (.tmp j)=.slice X xs.length c:=(by simpa[a6,isAgg] using h1.symm);rcases h2 with⟨rfl,_⟩ |⟨g,cur,τ,rfl,hg,hw,rz,hm,hj⟩
    ·simp at b2;omega
    have gC:n.toNat<xs.length:=(by omega);have hbound:0+n.toNat*t.size+t.size<=cur.size:=(by have h1:=aC t.size (show n.toNat+1<=xs.length from gC);have h2:=aC t.size hcc;rw[bc,cH] at h1;omega);refine hZ h (v:=.pointer (some ⟨g,0+n.toNat*t.size,none⟩)) (λw2=>?_) ⟨_,[.slice (some ⟨g,0,none⟩) xs.length c],g,0+n.toNat*t.size,⟨⟨ex,nI,fp⟩,⟨gC,trivial⟩,⟨_,rfl,rfl⟩,h1⟩,?_,rfl⟩
    ·simp only[execOp,ho,hv,hk,aZ,JQ hT hc b1 b2];rfl
    simp only[addrAt,eG hw hbound,aI]
   cases e
  cases e
 ·rename_i t s p n pL hn;obtain⟨k,hk⟩:=zr h hn;cases hc:Θ.is T (.sl t) with
  |false=>rw[hc] at e;cases e
  |true=>
  rw[hc] at e;simp only[ab] at e;obtain⟨r,kI,cs,hr,Da,hm⟩:=eH h pL;obtain⟨ex,b,kS,kH,j1,j2,j3,j4,hM,j5,j6,j7⟩:=vd h hr;rw[Da] at j5;injection j5 with j5;subst j5;split at e
  ·rename_i t' xs Zh;injection e with e;injection e with e1 e;subst e;obtain⟨b1,b2⟩:=PA e1;obtain⟨r2,ex2,q1,q2,q3⟩:=pZ Zh;rw[j1] at q1;injection q1 with q1 q1';subst q1 q1';rw[j3] at q3;injection q3 with q3;subst q3;injection j4 with j4;subst j4;have hK:=tD _ rfl j7;obtain⟨g,off,c,hv,hk2⟩:=ap7 (n:=n.toNat) hm hK (by have b2':n<(length xs:Int):=b2;show n.toNat<length xs;omega);refine hZ h (v:=.pointer (some ⟨g,off+n.toNat*Ty.size t',none⟩)) (λw2=>?_) ⟨[_],by simp[a6,isAgg],tS (.ptr _) hk2⟩;simp only[execOp,ho,hv,hk,aZ,JQ hT hc b1 b2];rfl
  ·rename_i t' T' tag me xs Zh;split at e
   ·rename_i b2' hb;injection e with e;injection e with e1 e;subst e;obtain⟨b1,b2⟩:=PA e1;obtain⟨r2,ex2,q1,q2,q3⟩:=pZ Zh;rw[j1] at q1;injection q1 with q1 q1';subst q1 q1';rw[j3] at q3;injection q3 with q3;subst q3;injection j4 with j4;subst j4;obtain⟨r3,ex3,p1,p2,p3⟩:=pZ hb;rw[j1] at p1;injection p1 with p1 p1';subst p1 p1';have fp:=rL p2;simp only[M] at j7;rcases j7 with⟨wj,_⟩ |⟨uH,_⟩ |⟨T2,ahx,me2,X,c,e2,rfl,hcc,aov,h2⟩
    ·exact absurd wj (Vi fp)
    ·simp[Md.eY] at uH
    have hv:a.eval x=.slice X (length xs) c:=(by simpa[a6,isAgg] using hm.symm);rcases h2 with⟨rfl,_⟩ |⟨g,cur,τ,rfl,hg,hw,rz,hm',hj⟩
    ·simp at b2;omega
    have gC:n.toNat<length xs:=(by omega);have hbound:0+n.toNat*Ty.size t'+Ty.size t'<=cur.size:=(by have h1:=aC (Ty.size t') (show n.toNat+1<=length xs from gC);have h2:=aC (Ty.size t') hcc;rw[bc,cH] at h1;omega);refine hZ h (v:=.pointer (some ⟨g,0+n.toNat*Ty.size t',none⟩)) (λw2=>?_) ⟨r,kI,g,0+n.toNat*Ty.size t',⟨⟨ex,j1,fp⟩,tX p _ j3 hr.val ⟨gC,trivial⟩,⟨_,by rw[tE,j3];rfl,rfl⟩,hr.mat⟩,?_,rfl⟩
    ·simp only[execOp,ho,hv,hk,aZ,JQ hT hc b1 b2];rfl
    rw[(tY p _ kI none j3).2,Da];simp only[aI,addrAt,eG hw hbound]
   cases e
  cases e
 cases e
end Go.Pv
namespace Go.Pv
open List Int IntKind
variable {P:Program} {w w':World} {A A':Nat->Prop} {H:Nat->Value} {tm N':Nat->Value} {S S':St} {σ:Nat->Option Nat} {w0:World} {W0 Z:Nat->Prop} {a:Act} {own:Nat->Prop} {v:Value} {Θ:kR} {dst:Option Nat}
theorem Q1 {k:IntKind} {i:Int} {y:Nat} {code:BoundsCode} (h0:0<=i) (h1:i<=y):(Instr.sliceBound (.int k i) y code).run P w=.ok i.toNat w:=by simp[Instr.sliceBound,asIntOf,h0,h1]
theorem aa8 {sl:Bool} {len cap:Nat} {lo hi:Option Value} {l h:Int} (hlo:(lo=none/\l=0)∨∃ k,lo=some (.int k l)) (hhi:(hi=none/\h=len)∨∃ k,hi=some (.int k h)) (h0:0<=l) (h1:l<=h) (h2:h<=len) (h3:len<=cap):(Instr.sliceBounds sl len cap lo hi none).run P w=.ok (l.toNat,h.toNat,cap) w:=by
 have e1:∀ k code,(Instr.sliceBound (.int k l) h.toNat code).run P w=.ok l.toNat w:=λk code=>Q1 h0 (by omega);have e2:∀ k code,(Instr.sliceBound (.int k h) cap code).run P w=.ok h.toNat w:=λk code=>Q1 (by omega) (by omega);unfold Instr.sliceBounds;rcases hlo with⟨rfl,rfl⟩ |⟨k,rfl⟩<;>rcases hhi with⟨rfl,rfl⟩ |⟨k',rfl⟩
 ·simp
 ·simp[e2]
 ·have Vm:∀ k code,(Instr.sliceBound (.int k l) len code).run P w=.ok l.toNat w:=λk code=>Q1 h0 (by omega);simp[Vm]
 simp[e1,e2]
theorem Ad (h:cY σ w0 W0 Z H S a w) {x:Option Operand} {d n:Int} (e:xL Θ S d x=some n):(x.map a.eval=none/\n=d)∨∃ k,x.map a.eval=some (.int k n):=by
 cases x with
 |none=>simp only[xL,ah] at e;exact .inl ⟨rfl,e.symm⟩
 |some x=>obtain⟨k,hk⟩:=zr h e;exact .inr ⟨k,by simp[hk]⟩
theorem ahy (hT:kh P Θ=true) (h:cY σ w0 W0 Z H S a w) {o:Oper} {T:TypeId} {x:Operand} {lo hi mx:Option Operand} (ho:o.op=.slice T x lo hi mx) (e:qQ Θ S o.dst T x lo hi mx=some (true,S')):Df P w0 W0 Z H S' a o.dst w (execOp a.eval o):=by
 unfold qQ at e;split at e
 ·rename_i av m s l pL hrd hl;split at e
  ·rename_i hh hhi;cases hc:Θ.is T .str with
   |false=>rw[hc] at e;cases e
   |true=>rw[hc] at e;simp only[ab,ah,aF,ai,au] at e;obtain⟨⟨⟨b1,b2⟩,b3⟩,e⟩:=e;subst e;obtain⟨cs,h1,h2,_⟩:=qi h hrd;have hv:=qD h1 h2;obtain⟨i,hi',rH⟩:=ph hc;obtain⟨_,hu,Tw⟩:=kV hT hi';have QZ:=Nq hu rH;rw[Tw] at QZ;refine hZ h (v:=.string (s.extract l.toNat hh.toNat)) (λw2=>?_) (aea _);have hb:=aa8 (P:=P) (w:=w2) (sl:=false) (Ad h hl) (Ad h hhi) b1 b2 b3 (aM _);simp[execOp,ho,hv,Instr.sliceAt,Instr.slice,a7 QZ,hb]
  cases e
 ·rename_i av t m xs l pL hrd hl;cases hc:Θ.is T (.sl t) with
  |false=>rw[hc] at e;cases e
  |true=>
  rw[hc] at e;simp only[ab] at e;obtain⟨i,hi',rH⟩:=ph hc;obtain⟨_,hu,Tw⟩:=kV hT hi';obtain⟨u1,u2,_⟩:=F9 hu rH;rw[Tw] at u1;obtain⟨inf,q1,q2,_⟩:=xg hT u2;obtain⟨cs,h1,h2,h3⟩:=qi h hrd;obtain⟨X,c,hv,xb,hlc⟩:=Ij h1 h2;have run:∀ (hh:Int),xL Θ S (xs.length:Int) hi=some hh->mx=none->0<=l->l<=hh->hh<=(xs.length:Int)->
    ∀ w2,(execOp a.eval o).run P w2=.ok (.value (.slice (if c=l.toNat then X else X.map (·.add (l.toNat*t.size))) (hh.toNat - l.toNat) (c - l.toNat))) w2:=by
   intro hh hhi hmx b1 b2 b3 w2
   subst hmx
   have hb:=aa8 (P:=P) (w:=w2) (sl:=true) (Ad h hl) (Ad h hhi) b1 b2 b3 hlc
   simp[execOp,ho,hv,Instr.sliceAt,Instr.slice,a7 u1,hb,sizeOf,typeInfo,qV,q1,q2]
  split at e
  ·rename_i _ hh hhi;split at e
   ·simp only[ah,aF,ai,au] at e;obtain⟨⟨⟨b1,b2⟩,b3⟩,e⟩:=e;subst e;have hK:=h3 rfl;subst xb;exact hZ h (run hh hhi rfl b1 b2 b3) ⟨[_],by simp[a6,isAgg],tS (.sl t) (amx hK (by omega) (by omega))⟩
   ·rename_i b ex i _;simp only[ah,aF,ai,au] at e;obtain⟨⟨⟨b1,b2⟩,b3⟩,e⟩:=e;subst e;have nI:S.at i=.v b ex:=by simpa[St.pJ] using pL
    unfold St.rd at hrd;rw[pL] at hrd;cases ex with
    |cons _ _=>simp[St.QV] at hrd
    |nil=>simp only[St.QV,ah] at hrd;subst hrd;subst xb;refine hZ h (run hh hhi rfl b1 b2 b3) ⟨_,_,t,X,length xs,c,⟨⟨[],nI,λq hq=>by simp at hq⟩,trivial,⟨_,rfl,rfl⟩,h1⟩,rfl,rfl,by omega,by omega,rfl⟩
   ·rename_i _ s p hm;simp only[ah,aF,ai,au] at e;obtain⟨⟨⟨b1,b2⟩,b3⟩,e⟩:=e;subst e;obtain⟨r,kI,kS,hr,Da,hmm⟩:=eH h pL;unfold St.rd at hrd;rw[pL] at hrd;simp only[St.QV] at hrd;obtain⟨Rv,_⟩:=np h hr Da hrd;simp only at Rv;subst Rv;obtain rfl:=oA h1 hmm;subst xb;refine hZ h (run hh hhi rfl b1 b2 b3) ⟨r,kI,t,X,length xs,c,hr,rfl,Da,by omega,by omega,rfl⟩
   cases e
  ·rename_i _ hh z ii hhi ap8;split at e
   ·rename_i c' hx hz;simp only[ah,aF,ai,au] at e;obtain⟨⟨⟨rfl,rfl⟩,rfl⟩,e⟩:=e;subst e;obtain⟨kz,hkz⟩:=zr h hz;refine hZ h (v:=.slice X 0 0) (λw2=>?_) ⟨[.slice X 0 0],by simp[a6,isAgg],?_⟩
    ·have hl':=Ad h hl;have hh':=Ad h hhi;have hb:(Instr.sliceBounds true xs.length c (lo.map a.eval) (some (a.eval hx)) (some (.int kz 0))).run P w2=.ok (0,0,0) w2:=by
      have e0:∀ k y code,(Instr.sliceBound (.int k 0) y code).run P w2=.ok 0 w2:=λk y code=>Q1 (by omega) (by omega);have hh2:∃ k,a.eval hx=.int k 0:=by
       rcases hh' with⟨hh',_⟩ |⟨k,hh'⟩
       ·simp at hh'
       exact⟨k,by simpa using hh'⟩
      obtain⟨k2,hk2⟩:=hh2;unfold Instr.sliceBounds;rcases hl' with⟨hl',_⟩ |⟨k1,hl'⟩<;>rw[hl',hk2]<;>simp[e0]
     simp[execOp,ho,hv,Instr.sliceAt,Instr.slice,a7 u1,hkz,hb,sizeOf,typeInfo,qV,q1,q2]
    simp only[M];exact .inr (.inr ⟨_,_,_,X,0,rfl,rfl,aM _,λh hh=>(by cases hh),.inl (by simp)⟩)
   cases e
  cases e
 cases e
end Go.Pv
namespace Go.Pv
open List Int IntKind
variable {P:Program} {w w':World} {A A' Wr:Nat->Prop} {H:Nat->Value} {tm N':Nat->Value} {S S' S1:St} {σ:Nat->Option Nat} {w0:World} {W0 Z:Nat->Prop} {a:Act} {own:Nat->Prop} {v:Value} {Θ:kR} {dst:Option Nat}
theorem aed:∀ (p:Path) {t:Ty} {m:Md} {x:t.I} {cs:List Value} {ow:Nat->Prop} {hs:List Path} {b:TV},M w Wr H t m x cs ow hs->open_ p hs->valid p t x->dA p t m x=some b->b.m.eY=false-> ∃ kS kH,cz w p t cs=some kS/\(∀ g,kH g->ow g)/\M w Wr H b.t b.m b.x kS kH (U3 p hs)/\M w Wr H t m x cs (λg=>ow g/\ ¬kH g) (hs++[p])
 |[],t,m,x,cs,ow,hs,b,h,ho,hv,hg,hk=>by
  simp only[dA,ah] at hg;subst hg;refine⟨cs,ow,rfl,λ_ h=>h,h,?_⟩;simp only at hk;have AQ:=rB t h;cases t<;>simp only[M] at h ⊢<;>first
   |(rw[hk] at h;exact absurd h.1 (by simp))
   |(exact .inl ⟨by simp,hk,AQ⟩)
   |(
     rcases h with⟨_,_,h⟩ |⟨uH,_⟩ |⟨T,tag,me,A,c,_,rfl,_⟩
     ·exact .inl ⟨by simp,hk,h⟩
     ·rw[hk] at uH;cases uH
     ·exact .inl ⟨by simp,hk,A,c,rfl⟩)
 | .deref::p,.ptr t,m,x,cs,ow,hs,b,h,ho,hv,hg,hk=>by
  simp only[dA] at hg;simp only[valid] at hv;simp only[M] at h;rcases h with⟨hn,_⟩ |⟨uH,h⟩ |⟨T,tag,me,g,cur,rfl,rfl,ht,N9,hw,h⟩
  ·exact absurd hn ho.not_nil
  ·rw[A7 p (Nf uH) hg] at hk;cases hk
  have hlen:=(rB t h).1;obtain⟨kS,kH,h1,h2,h3,h4⟩:=aed p h ho.sub hv hg hk;have rz:0+t.size<=cur.size:=(by rw[←hlen];simp);refine⟨kS,kH,?_,λg hg=>(h2 g hg).1,h3,?_⟩
  ·simp only[cz,eG hw rz,aI,dJ];rw[cw (by omega)];exact h1
  simp only[M];exact .inr (.inr ⟨T,tag,me,g,cur,rfl,rfl,ht,⟨N9,λhx=>(h2 g hx).2 rfl⟩,hw,b8 (cN.refl _ _) t (λ_ _ _=>rfl) (λg' dH _=>⟨⟨dH.1.1,dH.2⟩,dH.1.2⟩) (λq hq=>by
   rcases a8.1 hq with hq |hq
   ·exact nY.2 (eE _ (nY.1 hq))
   ·rw[bj.1 hq];exact nY.2 (mZ _ (by simp))) h4⟩)
 | .fst::p,.pair a b',m,x,cs,ow,hs,b,h,ho,hv,hg,hk=>by
  simp only[dA] at hg;simp only[valid] at hv;simp only[M] at h;rcases h with⟨hn,_⟩ |⟨uH,h⟩ |⟨ma,mb,c0,c1,s,rfl,rfl,h0,h1⟩
  ·exact absurd hn ho.not_nil
  ·rw[A7 p (aha uH) hg] at hk;cases hk
  obtain⟨kS,kH,k1,k2,k3,k4⟩:=aed p h0 ho.sub hv hg hk;refine⟨kS,kH,by simp only[cz];rw[←(rB a h0).1,dP];exact k1,λg hg=>(k2 g hg).1,k3,?_⟩;simp only[M];refine .inr (.inr ⟨ma,mb,c0,c1,s,rfl,rfl,b8 (cN.refl _ _) a (λ_ _ _=>rfl) (λg' dH _=>⟨⟨dH.1.1,dH.2⟩,dH.1.2⟩) (λq hq=>?_) k4,b8 (cN.refl _ _) b' (λ_ _ _=>rfl) (λg' dH _=>⟨⟨dH.1,λhx=>dH.2 (k2 g' hx).2⟩,dH.2⟩) (H9 (λq hq=>eE _ hq)) h1⟩);rcases a8.1 hq with hq |hq
  ·exact nY.2 (eE _ (nY.1 hq))
  rw[bj.1 hq];exact nY.2 (mZ _ (by simp))
 | .snd::p,.pair a b',m,x,cs,ow,hs,b,h,ho,hv,hg,hk=>by
  simp only[dA] at hg;simp only[valid] at hv;simp only[M] at h;rcases h with⟨hn,_⟩ |⟨uH,h⟩ |⟨ma,mb,c0,c1,s,rfl,rfl,h0,h1⟩
  ·exact absurd hn ho.not_nil
  ·rw[A7 p (ahb uH) hg] at hk;cases hk
  obtain⟨kS,kH,k1,k2,k3,k4⟩:=aed p h1 ho.sub hv hg hk;refine⟨kS,kH,by simp only[cz];rw[←(rB a h0).1,df];exact k1,λg hg=>(k2 g hg).1,k3,?_⟩;simp only[M];refine .inr (.inr ⟨ma,mb,c0,c1,s,rfl,rfl,b8 (cN.refl _ _) a (λ_ _ _=>rfl) (λg' dH _=>⟨⟨dH.1,λhx=>(k2 g' hx).2 dH.2⟩,dH.2⟩) (H9 (λq hq=>eE _ hq)) h0,b8 (cN.refl _ _) b' (λ_ _ _=>rfl) (λg' dH _=>⟨⟨dH.1.1,dH.2⟩,dH.1.2⟩) (λq hq=>?_) k4⟩);rcases a8.1 hq with hq |hq
  ·exact nY.2 (eE _ (nY.1 hq))
  rw[bj.1 hq];exact nY.2 (mZ _ (by simp))
 | .idx i::p,.sl t,m,xs,cs,ow,hs,b,h,ho,hv,hg,hk=>by
  simp only[dA] at hg;simp only[valid] at hv;obtain⟨hi,hv⟩:=hv;have sj:getD xs i t.z=xs[i]:=amA _ _ _ hi;simp only[M] at h;rcases h with⟨hn,_⟩ |⟨uH,h⟩ |⟨T,tag,me,X,c,rfl,rfl,hc,ht,h⟩
  ·exact absurd hn ho.not_nil
  ·rw[A7 p (Nf uH) hg] at hk;cases hk
  rcases h with⟨rfl,_⟩ |⟨g,cur,τ,rfl,N9,hw,rz,hm,h⟩
  ·simp at hi
  have hbound:0+i*t.size+t.size<=cur.size:=(by have h1:=aC t.size (show i+1<=xs.length from hi);have h2:=aC t.size hc;rw[bc,cH] at h1;omega);have hM:=h i hi;rw[←sj] at hM;obtain⟨kS,kH,h1,h2,h3,h4⟩:=aed p hM ho.sub hv hg hk;refine⟨kS,kH,by simp only[cz,eG hw hbound,aI];rw[aW];exact h1,λg hg=>(h2 g hg).1,h3,?_⟩;simp only[M];refine .inr (.inr ⟨T,tag,me,some ⟨g,0,none⟩,c,rfl,rfl,hc,ht,.inr ⟨g,cur,τ,rfl,⟨N9,λhx=>(h2 g hx).2.1 rfl⟩,hw,rz,hm,λj hj=>?_⟩⟩);by_cases HB:j=i
  ·subst HB;rw[sj] at h4;refine b8 (cN.refl _ _) t (λ_ _ _=>rfl) (λg' dH _=>⟨⟨dH.1.1,dH.2⟩,dH.1.2⟩) (λq hq=>?_) h4;rcases a8.1 hq with hq |hq
   ·exact nY.2 (eE _ (nY.1 hq))
   rw[bj.1 hq];exact nY.2 (mZ _ (by simp))
  exact b8 (cN.refl _ _) t (λ_ _ _=>rfl) (λg' dH _=>⟨⟨dH.1,λhx=>HB (by rw[←dH.2.2];exact(h2 g' hx).2.2)⟩,dH.2⟩) (H9 (λq hq=>eE _ hq)) (h j hj)
theorem Ik (a:Act) (i:Nat):a.put (some i) (gM a i)=a:=by
 unfold Act.put gM;simp only;have:a.tmps.setIfInBounds i (a.tmps.getD i undef)=a.tmps:=by
  apply Array.ext_getElem?;intro j;rw[mV,eW];by_cases h:i=j
  ·subst h;by_cases hl:i<a.tmps.size
   ·simp[hl]
   simp[hl]
  simp[h]
 rw[this]
def Db (σ:Nat->Option Nat) (q s:Nat) (g:Nat):Option Nat:=if σ g=some s then some q else σ g
theorem amB {σ:Nat->Option Nat} {Z:Nat->Prop} {q s g:Nat}:Av (Db σ q s) Z g↔Av σ Z g:=by
 unfold Av Db;by_cases h:σ g=some s
 ·rw[ay h,h];exact⟨λ_=>.inl ⟨s,rfl⟩,λ_=>.inl ⟨q,rfl⟩⟩
 rw[ar h]
structure wb (σ eo:Nat->Option Nat) (n:Nat) (ow:Nat->Prop):Prop where
 was:∀ g,ow g->∃ i,i<n/\σ g=some i
 now:∀ g,ow g->∃ i,n<=i/\eo g=some i
 sub:∀ g i,eo g=some i->i<n->σ g=some i
 dom:∀ g,(∃ i,eo g=some i)↔∃ i,σ g=some i
 par:∀ g i,σ g=some i->n<=i->eo g=some i
theorem wb.none (σ:Nat->Option Nat) (n:Nat):wb σ σ n λ_=>False:=⟨λ_ h=>h.elim,λ_ h=>h.elim,λ_ _ h _=>h,λ_=>Iff.rfl,λ_ _ h _=>h⟩
theorem wb.Db (σ:Nat->Option Nat) {n s:Nat} (hs:s<n) {ow:Nat->Prop} (h:∀ g,ow g->σ g=some s):wb σ (Db σ n s) n ow:=by
 refine⟨λg hg=>⟨s,hs,h g hg⟩,λg hg=>⟨n,aM _,by unfold Go.Pv.Db;rw[ay (h g hg)]⟩,λg i hg hi=>?_,λg=>?_,λg i hg hi=>?_⟩
 ·unfold Go.Pv.Db at hg;split at hg
  ·injection hg with hg;omega
  exact hg
 ·unfold Go.Pv.Db;split
  ·rename_i h;rw[h];exact⟨λ_=>⟨s,rfl⟩,λ_=>⟨n,rfl⟩⟩
  exact Iff.rfl
 unfold Go.Pv.Db;rw[ar (by rw[hg];intro e;injection e with e;omega)];exact hg
theorem wb.Av {σ eo:Nat->Option Nat} {n:Nat} {ow:Nat->Prop} (h:wb σ eo n ow) {Z:Nat->Prop} {g:Nat}:Av eo Z g↔Av σ Z g:=by unfold Go.Pv.Av;rw[h.dom g]
theorem qs {S:St} {i:Nat} (h:S.at i≠ .dead):i<S.length:=by
 rcases gD i S.length with hl |hl
 ·exact hl
 refine absurd ?_ h;unfold St.at;rw[aG,cv hl];rfl
theorem cY.Db (h:cY σ w0 W0 Z H S a w) (i:Nat):cY (Db σ S.length i) w0 W0 Z H (S.put (some i) .dead) a w:=by
 have fZ:cN w w (Av σ Z) (Av (Go.Pv.Db σ S.length i) Z):=⟨λ_ _ _=>rfl,λg _ hg=>amB.1 hg⟩;have hs:∀ g j,Go.Pv.Db σ S.length i g=some j->∃ k,σ g=some k:=λg j hg=>by
  unfold Go.Pv.Db at hg;split at hg
  ·exact⟨_,by assumption⟩
  exact⟨_,hg⟩
 have:=h.put (dst:=some i) (av:=.dead) (v:=gM a i) fZ h.fr (λg j hg=>by
  obtain⟨k,hk⟩:=hs g j hg
  exact⟨h.new g k hk,h.lt g k hk⟩) (λg hg=>by unfold Go.Pv.Db;rw[(h.old g hg).1];simp) (λj g _ hd hg=>⟨rfl,by unfold Go.Pv.Db;rw[ar (by rw[hg];intro e;exact hd e.symm)];exact hg⟩) (λ_ _ _ _=>trivial)
 rw[Ik] at this;exact this
theorem aa9 (S:St) (d:Nat) (p:Path) (i:Nat):(S.cover d p).at i=match S.at i with
 | .ad t s q=>bif Nat.beq s d&&under p q then .dead else .ad t s q
 |a=>a:=aaQ S _ rfl i
theorem Ref.re {t:Ty} {s:Nat} {p:Path} {r:TV} {kI:List Value} (h:Ref tm S t s p r kI) (hk:∀ ex,S.at s=.v r ex->open_ p ex->∃ ZR,S'.at s=.v r ZR/\open_ p ZR):Ref tm S' t s p r kI:=by obtain⟨⟨ex,h1,h2⟩,h3,h4,h5⟩:=h;exact⟨hk ex h1 h2,h3,h4,h5⟩
theorem wz {d:Nat} {p:Path} {r:TV} {ex:List Path} (hd:S.at d=.v r ex) (hS:∀ i r' ZR,i≠d->S.at i=.v r' ZR->S'.at i=.v r' ZR) (hS':S'.at d=.v r (ex++[p])) {own:Nat->Prop} {av:AV} {v:Value} (hf:av.qq d=false) (hc:∀ t q,av=.ad t d q->under p q=false) (h:Holds w A H tm S own av v) (hnv:∀ b ex,av≠ .v b ex) (hnt:∀ l,av≠ .QU l):Holds w A H tm S' own av v:=by
 have hre:∀ {t:Ty} {s:Nat} {q:Path} {r':TV} {kI:List Value},Ref tm S t s q r' kI->(s=d->under p q=false)->Ref tm S' t s q r' kI:=by
  intro t s q r' kI hr hu;refine hr.re (λex1 h1 h2=>?_);by_cases XL:s=d
  ·subst XL;rw[hd] at h1;injection h1 with h1 h1';subst h1 h1';refine⟨ex++[p],hS',λq' OV s' r' e=>?_⟩;rcases a8.1 OV with OV |OV
   ·exact h2 q' OV s' r' e
   rw[bj.1 OV] at e;have:=hu rfl;rw[e,H8] at this;cases this
  exact⟨ex1,hS s r' ex1 XL h1,h2⟩
 have akq:under p []=false:=by cases p<;>rfl
 cases av with
 |dead=>trivial
 |undef=>exact h
 |v b ex=>exact absurd rfl (hnv _ _)
 |QU l=>exact absurd rfl (hnt _)
 |al t s q=>
  obtain⟨r',kI,cs,h1,h2,h3⟩:=h;refine⟨r',kI,cs,hre h1 (λe=>?_),h2,h3⟩;subst e;cases q with
  |nil=>exact akq
  |cons _ _=>simp[AV.qq] at hf
 |ad t s q=>obtain⟨r',kI,g,off,h1,h2,h3⟩:=h;exact⟨r',kI,g,off,hre h1 (λe=>by subst e;exact hc _ _ rfl),h2,h3⟩
 |cut t s q lo hi=>obtain⟨r',kI,t',X,n,c,h1,h2⟩:=h;refine⟨r',kI,t',X,n,c,hre h1 (λe=>?_),h2⟩;subst e;simp[AV.qq] at hf
 |EL f kn=>
 obtain⟨vs,h1,h2,h3⟩:=h;refine⟨vs,h1,h2,λj c hj=>?_⟩;obtain⟨u,k1,k2⟩:=h3 j c hj;refine⟨u,k1,?_⟩;cases c with
 |kv b=>exact k2
 |pl t s q=>
 obtain⟨r',kI,cs,l1,l2,l3⟩:=k2;refine⟨r',kI,cs,hre l1 (λe=>?_),l2,l3⟩;subst e;cases q with
 |nil=>exact akq
 |cons a' q'=>simp only[AV.qq] at hf;have wj:=cV.1 hf _ (da hj);simp at wj
theorem rM (h:cY σ w0 W0 Z H S a w) {T:TypeId} {x:Operand} {av:AV} {b:TV} (ho:S.pJ Θ T x=some av) (e:S.pA x av=some (b,S1)): ∃ eo cs ow,cY eo w0 W0 Z H S1 a w/\a6 b.t (a.eval x) cs/\M w (Av σ Z) H b.t b.m b.x cs ow []/\wb σ eo S.length ow/\S1.length=S.length:=by
 have hh:=eH h ho;cases av with
 |v b0 ex=>
  simp only[St.pA] at e;cases hk:b0.m.eY with
  |true=>rw[hk] at e;simp only[ab,ah,aF] at e;obtain⟨rfl,rfl⟩:=e;obtain⟨cs,h1,h2⟩:=hh;exact⟨σ,cs,λ_=>False,h,h1,KU hk (tD _ hk h2),wb.none _ _,rfl⟩
  |false=>
  rw[hk] at e;simp only[ae] at e;split at e
  ·rename_i i;simp only[ah,aF] at e;obtain⟨rfl,rfl⟩:=e;obtain⟨cs,h1,h2⟩:=hh;refine⟨_,cs,_,h.Db i,h1,h2,wb.Db σ (qs ?_) (λg hg=>?_),eC _ _ _⟩
   ·simp only[St.pJ,ah] at ho;rw[ho];exact λe=>by cases e
   obtain⟨j,hj,hg⟩:=hg;injection hj with hj;subst hj;exact hg
  ·rename_i hx;simp only[ah,aF] at e;obtain⟨rfl,rfl⟩:=e;obtain⟨cs,h1,h2⟩:=hh;refine⟨σ,cs,λ_=>False,h,h1,b8 (cN.refl _ _) _ (λ_ _ _=>rfl) (λg hg _=>?_) (λ_ h=>h) h2,wb.none _ _,rfl⟩;obtain⟨j,hj,_⟩:=hg;exact hx j hj
  cases e
 |al t s p=>
  simp only[St.pA] at e;obtain⟨r,kI,cs,hr,hc,hm⟩:=hh;split at e
  ·rename_i b' hb;cases hk:b'.m.eY with
   |true=>rw[hk] at e;simp only[ab,ah,aF] at e;obtain⟨rfl,rfl⟩:=e;obtain⟨Rv,kH,_,hM⟩:=np h hr hc hb;exact⟨σ,cs,λ_=>False,h,by rw[Rv];exact hm,KU hk (tD _ hk hM),wb.none _ _,rfl⟩
   |false=>
   rw[hk] at e;simp only[ae] at e;cases hp:p with
   |nil=>subst hp;simp only[ah,aF] at e;obtain⟨rfl,rfl⟩:=e;obtain⟨Rv,kH,Pe,hM⟩:=np h hr hc hb;obtain⟨ex0,hs0,_⟩:=hr.at_;exact⟨_,cs,kH,h.Db s,by rw[Rv];exact hm,hM,wb.Db σ (qs (by rw[hs0];exact λe=>by cases e)) Pe,eC _ _ _⟩
   |cons stp pp=>
    rw[hp] at e
    obtain⟨ex,b2,kS,ow0,j1,j2,j3,j4,hM,j5,j6,j7⟩:=vd h hr
    rw[j1] at e
    simp only[ah,aF] at e
    rw[←hp] at e
    obtain⟨rfl,rfl⟩:=e
    obtain⟨r3,ex3,q1,q2,q3⟩:=Nt hb
    rw[j1] at q1
    injection q1 with q1 q1'
    subst q1 q1'
    rw[j3] at q3
    injection q3 with q3
    subst q3
    obtain⟨cs2,kH,k1,k2,k3,k4⟩:=aed p hM j2 hr.val j3 hk
    rw[hc] at k1
    injection k1 with k1
    subst k1
    rw[Sz q2] at k3
    -- the ownership without what is taken
    have ap9:s<S.length:=qs (by rw[j1];exact λe=>by cases e)
    let eo:Nat->Option Nat:=λg=>open Classical in if kH g then some S.length else σ g
    have aa':∀ g i,eo g=some i->∃ k,σ g=some k:=by
     intro g i hg
     simp only[eo] at hg
     split at hg
     ·exact⟨s,k2 g (by assumption)⟩
     ·exact⟨i,hg⟩
    have aba:∀ g i,σ g=some i->¬kH g->eo g=some i:=by
     intro g i hg hn
     simp only[eo,ar hn,hg]
    have fZ:cN w w (Av σ Z) (Av eo Z):=⟨λ_ _ _=>rfl,λg _ hg=>by
     rcases hg with⟨i,hg⟩ |hg
     ·exact .inl (aa' g i hg)
     ·exact .inr hg⟩
    have ap':wb σ eo S.length kH:=by
     refine⟨λg hg=>⟨s,ap9,k2 g hg⟩,λg hg=>⟨_,aM _,by simp only[eo,ay hg]⟩,λg i hg hi=>?_,λg=>⟨λ⟨i,hg⟩=>aa' g i hg,λ⟨i,hg⟩=>?_⟩,λg i hg hi=>aba g i hg (λhx=>?_)⟩
     ·simp only[eo] at hg
      split at hg
      ·injection hg with hg;omega
      ·exact hg
     ·simp only[eo]
      split
      ·exact⟨_,rfl⟩
      ·exact⟨i,hg⟩
     ·have:=k2 g hx
      rw[hg] at this
      injection this with this
      omega
    refine⟨eo,cs,kH,?_,by rw[j4];exact hm,k3,ap',by simp[St.weaken,St.cover]⟩
    have hlen:((S.weaken s).cover s p).length=S.length:=by simp[St.weaken,St.cover]
    have ZS:s<S.length:=by
     rcases gD s S.length with hl |hl
     ·exact hl
     ·unfold St.at at j1
      rw[aG,cv hl] at j1
      cases j1
    have X0:St.at (((S.weaken s).cover s p).set s (.v r (ex++[p]))) s=.v r (ex++[p]):=by rw[kT,ay ⟨rfl,by rw[hlen];exact ZS⟩]
    have F7:∀ i,i≠s->St.at (((S.weaken s).cover s p).set s (.v r (ex++[p]))) i=(match (bif (S.at i).qq s then AV.dead else S.at i) with
      | .ad t s' q=>bif Nat.beq s' s&&under p q then .dead else .ad t s' q
      |a=>a):=by
     intro i hi
     rw[kT,ar (λe=>hi e.1),aa9,z']
    refine⟨by simp only[bF,hlen];exact h.len,h.defers,h.fr,λg i hg=>(aa' g i hg).elim λk hk=>h.new g k hk,λg i hg=>(aa' g i hg).elim λk hk=>h.lt g k hk,λg hg=>⟨?_,(h.old g hg).2⟩,λi=>?_⟩
    ·simp only[eo]
     split
     ·rename_i hx
      have:=k2 g hx
      rw[(h.old g hg).1] at this
      cases this
     ·exact(h.old g hg).1
    ·by_cases his:i=s
     ·subst his
      rw[X0]
      exact⟨kI,hr.mat,b8 fZ _ (λ_ _ _=>rfl) (λg hg _=>aba g _ hg.1 hg.2) (λ_ h=>h) k4⟩
     ·rw[F7 i his]
      cases M7:(S.at i).qq s with
      |true=>trivial
      |false=>
       simp only[ae]
       have hi:=h.holds i
       have base:Holds w (Av eo Z) H (gM a) S (λg=>eo g=some i) (S.at i) (gM a i):=
        hi.kept fZ (λg hg _=>⟨rfl,aba g i hg (λhx=>his (by have:=k2 g hx;rw[hg] at this;injection this))⟩) (λs' _=>⟨λ_ _ h=>h,rfl,_,h.holds s',λ_ _ _=>rfl⟩)
       have hSv:∀ j r' ZR,j≠s->S.at j=.v r' ZR->St.at (((S.weaken s).cover s p).set s (.v r (ex++[p]))) j=.v r' ZR:=by
        intro j r' ZR hj hv
        rw[F7 j hj,hv]
        simp[AV.qq]
       cases tF:S.at i with
       |v b3 ex3=>
        rw[tF] at base
        obtain⟨c3,l1,l2⟩:=base
        exact⟨c3,l1,l2⟩
       |QU l=>
        rw[tF] at base
        exact base
       |ad t' s' q=>
        rw[tF] at base M7
        simp only
        cases ax2:(Nat.beq s' s&&under p q) with
        |true=>trivial
        |false=>
         simp only[ae]
         refine wz j1 hSv X0 M7 (λt2 q2 e2=>?_) base (λ_ _ e=>by cases e) (λ_ e=>by cases e)
         injection e2 with _ e3 e4
         subst e3 e4
         simpa using ax2
       |dead=>trivial
       |undef=>rw[tF] at base;exact base
       |al t' s' q=>
        rw[tF] at base M7
        exact wz j1 hSv X0 M7 (λt2 q2 e2=>by cases e2) base (λ_ _ e=>by cases e) (λ_ e=>by cases e)
       |cut t' s' q lo hi'=>
        rw[tF] at base M7
        exact wz j1 hSv X0 M7 (λt2 q2 e2=>by cases e2) base (λ_ _ e=>by cases e) (λ_ e=>by cases e)
       |EL f kn=>
        rw[tF] at base M7
        exact wz j1 hSv X0 M7 (λt2 q2 e2=>by cases e2) base (λ_ _ e=>by cases e) (λ_ e=>by cases e)
  cases e
 |cut t s p lo hi=>
  cases p with
  |cons _ _=>simp[St.pA] at e
  |nil=>
  simp only[St.pA] at e;obtain⟨r,kI,t',X,n,c,hr,rfl,hc,hlo,hhi,hv⟩:=hh;split at e
  ·rename_i t2 T2 tag me xs hb;cases ax3:Nat.beq lo 0 with
   |false=>rw[ax3] at e;cases e
   |true=>
   rw[ax3] at e;have hl0:=aw ax3;subst hl0;simp only[ab,ah,aF] at e;obtain⟨rfl,rfl⟩:=e;obtain⟨Rv,kH,Pe,hM⟩:=np h hr hc hb;injection Rv with Rv;subst Rv;simp only[M] at hM;rcases hM with⟨hn,_⟩ |⟨hk,_⟩ |⟨T3,aD6,me3,X3,c3,e3,e4,hcc,aov,hM⟩
   ·simp at hn
   ·simp[Md.eY] at hk
   injection e3 with e3 e3' aC';subst e3 e3' aC';simp only[dW,fc,iJ] at e4;obtain⟨rfl,hn,rfl⟩:=e4;have hv':a.eval x=.slice X hi c:=by
    rw[hv];have:(if c=0 then X else X.map λx=>x.add (0*Ty.size t2))=X:=by
     split
     ·rfl
     cases X with
     |none=>rfl
     |some ad=>simp[Addr.add]
    rw[this];simp
   have hlen:(List.take hi xs).length=hi:=(by rw[aH];omega);obtain⟨ex0,hs0,_⟩:=hr.at_;refine⟨_,[.slice X hi c],kH,h.Db s,by simp[a6,isAgg,hv'],?_,wb.Db σ (qs (by rw[hs0];exact λe=>by cases e)) Pe,eC _ _ _⟩;simp only[M];refine .inr (.inr ⟨T2,none,me,X,c,rfl,by rw[hlen],by rw[hlen];omega,λh hh=>(by cases hh),?_⟩);rcases hM with⟨rfl,rfl⟩ |⟨g,cur,τ,rfl,hg,hw,rz,hm,hj⟩
   ·left;simp
   right;refine⟨g,cur,τ,rfl,hg,hw,rz,hm,λj hj1=>?_⟩;rw[hlen] at hj1;have:=hj j (by omega);rw[gw];exact this
  cases e
 |_=>simp[St.pA] at e
def uJ (σ:Nat->Option Nat) (dst:Option Nat) (ow:Nat->Prop) (g:Nat):Option Nat:=open Classical in if ow g then dst else release σ dst g
theorem cY.amC (h:cY σ w0 W0 Z H S a w) {av:AV} {ow:Nat->Prop} (rz:w.heap.size<=w'.heap.size) (xB:∀ g,g<w.heap.size->(∀ i,S.length<=i->σ g≠some i)->w'.heap[g]?=w.heap[g]?) (M7:Fr w0 W0 w') (Pe:∀ g,ow g->g<w'.heap.size/\((∃ i,S.length<=i/\σ g=some i)∨w.heap.size<=g)) (hH:∀ d,dst=some d->(∀ g,ow g->uJ σ dst ow g=some d)->(∀ g,Av (uJ σ dst ow) Z g->Av σ Z g∨ow g)->Holds w' (Av (uJ σ dst ow) Z) H (gM (a.put dst v)) (S.put dst av) (λg=>uJ σ dst ow g=some d) av v): cY (uJ σ dst ow) w0 W0 Z H (S.put dst av) (a.put dst v) w':=by
 have hw0:w0.heap.size<=w.heap.size:=h.fr.size;have tF:∀ g i,uJ σ dst ow g=some i->(ow g/\dst=some i)∨(¬ow g/\σ g=some i/\dst≠some i):=λg i hg=>by
  unfold uJ at hg;split at hg
  ·exact .inl ⟨by assumption,hg⟩
  exact .inr ⟨by assumption,qT hg⟩
 have hAv:∀ g,Av (uJ σ dst ow) Z g->Av σ Z g∨ow g:=λg hg=>by
  rcases hg with⟨i,hg⟩ |hg
  ·rcases tF g i hg with⟨h1,_⟩ |⟨_,h1,_⟩
   ·exact .inr h1
   exact .inl (.inl ⟨i,h1⟩)
  exact .inl (.inr hg)
 have fZ:cN w w' (Av σ Z) (Av (uJ σ dst ow) Z):=⟨λg hn hg=>xB g hg (λi _ hi=>hn (.inl ⟨i,hi⟩)),λg hg hx=>by
  rcases hAv g hx with h1 |h1
  ·exact h1
  ·rcases(Pe g h1).2 with⟨i,_,hi⟩ |h2
   ·exact .inl ⟨i,hi⟩
   ·omega⟩
 refine h.put fZ M7 (λg i hg=>?_) (λg hg=>?_) (λi g hi hd hg=>⟨xB g (h.lt g i hg) (λj hj M8=>by rw[hg] at M8;injection M8 with M8;omega),?_⟩) (λd hd hl _=>hH d hd (λg hg=>by unfold uJ;rw[ay hg];exact hd) hAv)
 ·rcases tF g i hg with⟨h1,_⟩ |⟨_,h1,_⟩
  ·rcases Pe g h1 with⟨h2,⟨j,_,hj⟩ |h3⟩
   ·exact⟨h.new g j hj,h2⟩
   exact⟨.inl (by omega),h2⟩
  exact⟨h.new g i h1,by have:=h.lt g i h1;omega⟩
 ·obtain⟨h1,h2⟩:=h.old g hg;unfold uJ;split
  ·rename_i hx;rcases(Pe g hx).2 with⟨i,_,hi⟩ |h3
   ·rw[h1] at hi;cases hi
   omega
  unfold release;split
  ·rfl
  exact h1
 have hn: ¬ow g:=λhx=>by
  rcases(Pe g hx).2 with⟨j,hj,M8⟩ |h3
  ·rw[hg] at M8;injection M8 with M8;omega
  have:=h.lt g i hg;omega
 unfold uJ;rw[ar hn];exact HC hd hg
theorem cY.aw3 (h:cY σ w0 W0 Z H S a w) {b:TV} {cs:List Value} {ow:Nat->Prop} {A':Nat->Prop} (rz:w.heap.size<=w'.heap.size) (xB:∀ g,g<w.heap.size->(∀ i,S.length<=i->σ g≠some i)->w'.heap[g]?=w.heap[g]?) (M7:Fr w0 W0 w') (Pe:∀ g,ow g->g<w'.heap.size/\((∃ i,S.length<=i/\σ g=some i)∨w.heap.size<=g)) (hA:∀ g,g<w'.heap.size->Av σ Z g∨ow g->A' g) (hm:a6 b.t v cs) (hM:M w' A' H b.t b.m b.x cs ow []): cY (uJ σ dst ow) w0 W0 Z H (S.put dst (.v b [])) (a.put dst v) w':=h.amC rz xB M7 Pe λd _ h1 h2=>⟨cs,hm,b8 ⟨λ_ _ _=>rfl,λg hg hx=>hA g hg (h2 g hx)⟩ _ (λ_ _ _=>rfl) (λg hg _=>h1 g hg) (λ_ h=>h) hM⟩
theorem cY.afv (h:cY σ w0 W0 Z H S a w) {b:TV} {cs:List Value} {ow:Nat->Prop} {A':Nat->Prop} (xB:∀ g,g<w.heap.size->w'.heap[g]?=w.heap[g]?) (M7:Fr w0 W0 w') (Pe:∀ g,ow g->g<w'.heap.size/\((∃ i,S.length<=i/\σ g=some i)∨w.heap.size<=g)) (hA:∀ g,g<w'.heap.size->Av σ Z g∨ow g->A' g) (hm:a6 b.t v cs) (hM:M w' A' H b.t b.m b.x cs ow []): cY (uJ σ dst ow) w0 W0 Z H (S.put dst (.v b [])) (a.put dst v) w':=by
 refine h.aw3 ?_ (λg hg _=>xB g hg) M7 Pe hA hm hM;rcases vj w.heap.size with h0 |h0
 ·omega
 have:=xB (w.heap.size - 1) (by omega);rw[db (show w.heap.size - 1<w.heap.size by omega)] at this;have:=dh this;omega
end Go.Pv
namespace Go.Pv
open List Int IntKind
variable {P:Program} {w w':World} {A A' Wr:Nat->Prop} {H:Nat->Value} {tm N':Nat->Value} {S S' S1:St} {σ eo:Nat->Option Nat} {w0:World} {W0 Z:Nat->Prop} {a:Act} {own:Nat->Prop} {v:Value} {Θ:kR} {dst:Option Nat}
theorem xh:∀ (t:Ty),z8 t=true->K w A t t.z (zc t)
 | .int k,_=>by simp[K,zc,Ty.z]
 | .bool,_=>by simp[K,zc,Ty.z]
 | .str,_=>by simp[K,zc,Ty.z]
 | .unit,_=>by simp[K,zc]
 | .sl t,_=>by simp only[K,zc,Ty.z];exact⟨none,0,rfl,aM _,λh=>absurd h (zt _)⟩
 | .pair a b,h=>by simp only[z8,ai] at h;simp only[K,zc,Ty.z];exact⟨_,_,rfl,xh a h.1,xh b h.2⟩
 | .ptr t,h=>by simp[z8] at h
 | .arr n t,h=>by simp only[z8] at h;simp only[K,zc,Ty.z];refine⟨List.replicate n (zc t),rfl,by simp,by simp,λj h1 h2=>?_⟩;simp only[List.getElem_replicate];exact xh t h
 | .mp,h=>by simp[z8] at h
theorem afw {t:Ty} {x:t.I} {m:Md} {cs:List Value} {ow:Nat->Prop} (h:M w A H t m x cs (λ_=>False) []):M w A H t m x cs ow []:=b8 (cN.refl _ _) t (λ_ _ _=>rfl) (λ_ h _=>h.elim) (λ_ h=>h) h
theorem abb:∀ (t:Ty) {m:Md},Ti t m=true->M w A H t m t.z (zc t) (λ_=>False) []
 | .pair a b,.p ma mb,h=>by
  simp only[Ti,bd,ai] at h;rcases h with h |h
  ·simp only[M];exact .inr (.inr ⟨ma,mb,zc a,zc b,λ_=>True,rfl,rfl,afw (abb a h.1),afw (abb b h.2)⟩)
  exact KU (by simp[Md.eY,h.1.1.1,h.1.1.2]) (by simp only[K,zc,Ty.z];exact⟨_,_,rfl,xh a h.1.2,xh b h.2⟩)
 | .sl t,.o T none me,_=>by simp only[M];exact .inr (.inr ⟨T,none,me,none,0,rfl,rfl,aM _,λh hh=>(by cases hh),.inl ⟨rfl,rfl⟩⟩)
 | .pair a b,.k,h=>by simp only[Ti,ai] at h;exact KU h.1 (xh _ h.2)
 | .pair a b,.o ..,h=>by simp[Ti,Md.eY] at h
 | .sl t,.k,h=>by simp only[Ti,ai] at h;exact KU h.1 (xh _ h.2)
 | .sl t,.o _ (some _) _,h=>by simp[Ti,Md.eY] at h
 | .sl t,.p a b,h=>by simp only[Ti,ai] at h;exact KU h.1 (xh _ h.2)
 | .int k,m,h=>by have h:(m.eY&&z8 (.int k))=true:=(by cases m<;>exact h);simp only[ai] at h;exact KU h.1 (xh _ h.2)
 | .bool,m,h=>by have h:(m.eY&&z8 .bool)=true:=(by cases m<;>exact h);simp only[ai] at h;exact KU h.1 (xh _ h.2)
 | .str,m,h=>by have h:(m.eY&&z8 .str)=true:=(by cases m<;>exact h);simp only[ai] at h;exact KU h.1 (xh _ h.2)
 | .unit,m,h=>by have h:(m.eY&&z8 .unit)=true:=(by cases m<;>exact h);simp only[ai] at h;exact KU h.1 (xh _ h.2)
 | .ptr t,m,h=>by have h:(m.eY&&z8 (.ptr t))=true:=(by cases m<;>exact h);simp[z8] at h
 | .arr n t,m,h=>by have h:(m.eY&&z8 (.arr n t))=true:=(by cases m<;>exact h);simp only[ai] at h;exact KU h.1 (xh _ h.2)
 | .mp,m,h=>by have h:(m.eY&&z8 .mp)=true:=(by cases m<;>exact h);simp[z8] at h
theorem X4 (hT:kh P Θ=true) {T:TypeId} {z:TV} (h:Pj Θ T=some z): ∃ i inf zv,Θ.find T=some i/\i.ty=z.t/\z.x=z.t.z/\Ti z.t z.m=true/\P.info? T=some inf/\inf.size=z.t.size/\inf.zero=some zv/\a6 z.t zv (zc z.t)/\inf.bytes<=32*z.t.size/\inf.bytes<=256:=by
 unfold Pj at h;split at h
 ·rename_i i hi;cases hz:Ti i.ty (ag9 Θ 9 T) with
  |false=>rw[hz] at h;cases h
  |true=>rw[hz] at h;simp only[ab,ah] at h;subst h;obtain⟨⟨_,inf,zv,h1,h2,h3,h4,h5,h6,h7⟩,_,rfl⟩:=kV hT hi;exact⟨i,inf,zv,hi,rfl,rfl,hz,h1,h2,h6,h7,h3,h4⟩
 cases h
theorem Fr.alloc (h:Fr w0 W0 w) (o:Obj):Fr w0 W0 (w.alloc o):=by
 refine⟨h.os,h.tape,h.output,?_,λg hg hn=>?_⟩
 ·have:=h.size;simp only[World.alloc,gf];omega
 rw[heap_alloc_old w o g (by have:=h.size;omega)];exact h.block g hg hn
theorem zu {t:Ty} {v:Value} {cs:List Value} (h:a6 t v cs) (h1:∀ u∈cs,u.oneCell'=true):v.cells=cs.toArray:=by have:=afk h h1;rw[←this]
theorem ahz {t:Ty} {m:Md} {x:t.I} {cs:List Value} {ow:Nat->Prop} (T:TypeId) (hM:M w A H t m x cs ow []) (gC:∀ g,ow g->g<w.heap.size): M (w.alloc (.cells cs.toArray T)) (λg=>A g∨w.heap.size<=g) H (.ptr t) (.o T none m) x [.pointer (some ⟨w.heap.size,0,none⟩)] (λg=>ow g∨g=w.heap.size) []:=by
 simp only[M];refine .inr (.inr ⟨T,none,m,w.heap.size,cs.toArray,rfl,rfl,λh hh=>(by cases hh),.inr rfl,gW w _,?_⟩);refine b8 (w:=w) ⟨λg _ hg=>heap_alloc_old w _ g hg,λg hg hx=>?_⟩ t (λg hg hl=>heap_alloc_old w _ g hl) (λg hg hl=>⟨.inl hg,by omega⟩) (λ_ h=>(by simp at h)) hM;rcases hx with hx |hx
 ·exact hx
 omega
def Vn (P:Program) (w0:World) (W0 Z:Nat->Prop) (H:Nat->Value) (S':St) (a:Act) (dst:Option Nat) (w:World) (s:Sem Next):Prop:=∃ w' v,s.run P w=.ok (.value v) w'/\Ext w w'/\Rel w0 W0 Z H S' (a.put dst v) w'
theorem Vn.goes {s:Sem Next} (h:Vn P w0 W0 Z H S' a dst w s):adv P w0 W0 Z H S' a dst w s:=by obtain⟨w',v,h1,_,h2⟩:=h;exact⟨w',v,.inl h1,h2⟩
theorem x7.ZQ {s:Sem Next} (h:x7 P w0 W0 Z H S' a dst w s):Vn P w0 W0 Z H S' a dst w s:=by obtain⟨v,h1,h2⟩:=h;exact⟨w,v,h1 w (Ext.refl w),Ext.refl w,h2⟩
theorem aqa (hT:kh P Θ=true) (h:cY σ w0 W0 Z H S a w) {hn:Hn} {o:Oper} {T:TypeId} (ho:o.op=.alloc T) (e:Nc Θ hn S o.dst T=some (true,S')):Vn P w0 W0 Z H S' a o.dst w (execOp a.eval o):=by
 unfold Nc at e;split at e
 ·rename_i z hz;cases hf:Ti z.t (hn.find o.dst z.m) with
  |false=>rw[hf] at e;cases e
  |true=>
  rw[hf] at e;simp only[ab,ah,aF,cl] at e;subst e;obtain⟨i,inf,zv,_,_,_,_,h1,h2,h3,h4,_⟩:=X4 hT hz;have hM:M w (Av σ Z) H z.t (hn.find o.dst z.m) z.t.z (zc z.t) (λ_=>False) []:=abb z.t hf;have ax4:=ahz T hM (λ_ h=>h.elim);refine⟨w.alloc (.cells (zc z.t).toArray T),.pointer (some ⟨w.heap.size,0,none⟩),?_,λg hg=>heap_alloc_old w _ g hg,_,h.afv (b:=⟨.ptr z.t,.o T none (hn.find o.dst z.m),z.t.z⟩) (cs:=[.pointer (some ⟨w.heap.size,0,none⟩)]) (λg hg=>heap_alloc_old w _ g hg) (h.fr.alloc _) (λg hg=>?_) (λg hg hx=>?_) (by simp[a6,isAgg]) ax4⟩
  ·simp[execOp,ho,Instr.alloc,zeroValue,typeInfo,h1,h3,newVar,newRow,zu h4 (rB _ hM).2]
  ·rcases hg with hg |rfl
   ·exact hg.elim
   exact⟨by simp only[World.alloc,gf];omega,.inr (aM _)⟩
  rcases hx with hx |hx |rfl
  ·exact .inl hx
  ·exact hx.elim
  exact .inr (aM _)
 cases e
theorem LG {b:TV} {cs:List Value} {ow:Nat->Prop} {s:Sem Next} {n:Nat} (h:cY eo w0 W0 Z H S1 a w) (hk:wb σ eo n ow) (hn:S1.length=n) (hr:∀ w2,Ext w w2->s.run P w2=.ok (.value v) w2) (hm:a6 b.t v cs) (hM:M w (Av σ Z) H b.t b.m b.x cs ow []): x7 P w0 W0 Z H (S1.put dst (.v b [])) a dst w s:=by
 refine⟨v,hr,_,h.afv (b:=b) (cs:=cs) (λ_ _=>rfl) h.fr (λg hg=>?_) (λg hg hx=>?_) hm hM⟩
 ·obtain⟨i,hi,dH⟩:=hk.now g hg;exact⟨h.lt g i dH,.inl ⟨i,by omega,dH⟩⟩
 rcases hx with hx |hx
 ·exact hk.Av.1 hx
 obtain⟨i,hi,dH⟩:=hk.was g hx;exact .inl ⟨i,dH⟩
theorem ax5 (hT:kh P Θ=true) (h:cY σ w0 W0 Z H S a w) {o:Oper} {T:TypeId} {x:Operand} (ho:o.op=.box T x) (e:apx Θ S o.dst T x=some (true,S')):Vn P w0 W0 Z H S' a o.dst w (execOp a.eval o):=by
 unfold apx St.take at e;split at e
 ·rename_i b S1 hb;split at hb
  ·rename_i av pL;obtain⟨eo,cs,ow,h1,hm,hM,hk,hn⟩:=rM h pL hb;cases hc:Θ.is T b.t with
   |false=>rw[hc] at e;cases e
   |true=>
   rw[hc] at e;simp only[ab,ah,aF,cl] at e;subst e;have gC:∀ g,ow g->g<w.heap.size:=λg hg=>(by obtain⟨i,_,hi⟩:=hk.was g hg;exact h.lt g i hi);have ax4:=ahz T hM gC;refine⟨w.alloc (.cells cs.toArray T),.pointer (some ⟨w.heap.size,0,none⟩),?_,λg hg=>heap_alloc_old w _ g hg,_,h1.afv (b:=⟨.ptr b.t,.o T none b.m,b.x⟩) (cs:=[.pointer (some ⟨w.heap.size,0,none⟩)]) (λg hg=>heap_alloc_old w _ g hg) (h1.fr.alloc _) (λg hg=>?_) (λg hg hx=>?_) (by simp[a6,isAgg]) ax4⟩
   ·simp[execOp,ho,Instr.box,newVar,newRow,zu hm (rB _ hM).2]
   ·rcases hg with hg |rfl
    ·obtain⟨i,hi,dH⟩:=hk.now g hg;have:=gC g hg;exact⟨by simp only[World.alloc,gf];omega,.inl ⟨i,by omega,dH⟩⟩
    exact⟨by simp only[World.alloc,gf];omega,.inr (aM _)⟩
   rcases hx with hx |hx |rfl
   ·exact .inl (hk.Av.1 hx)
   ·obtain⟨i,_,hi⟩:=hk.was g hx;exact .inl (.inl ⟨i,hi⟩)
   exact .inr (aM _)
  cases hb
 cases e
theorem x7.still {s:Sem Next} (hr:∀ w2,s.run P w2=.ok (.value v) w2) (h:x7 P w0 W0 Z H S' a dst w s):Df P w0 W0 Z H S' a dst w s:=by obtain⟨v',h1,h2⟩:=h;have:=(h1 w (Ext.refl w)).symm.trans (hr w);injection this with this;injection this with this;subst this;exact⟨_,hr,h2⟩
end Go.Pv
namespace Go.Pv
open List Int IntKind
variable {P:Program} {w w':World} {A A' Wr:Nat->Prop} {H:Nat->Value} {tm N':Nat->Value} {S S' S1:St} {σ eo:Nat->Option Nat} {w0:World} {W0 Z:Nat->Prop} {a:Act} {own:Nat->Prop} {v:Value} {Θ:kR} {dst:Option Nat}
theorem Q2:∀ (p:Path) {t:Ty} {m:Md} {x:t.I} {b b0:TV} {r:Md×t.I},wk b p t m x=some r->dA p t m x=some b0->b.t=b0.t
 |[],t,m,x,b,b0,r,h,hg=>by
  simp only[dA,ah] at hg;subst hg;simp only[wk] at h;split at h
  ·assumption
  cases h
 | .deref::p,.ptr t,.o T tag me,x,b,b0,r,h,hg=>by
  simp only[wk] at h;simp only[dA] at hg;split at h
  ·rename_i r1 h1;exact Q2 p h1 hg
  cases h
 | .fst::p,.pair t u,m,x,b,b0,r,h,hg=>by
  simp only[wk] at h;simp only[dA] at hg;split at h
  ·rename_i r1 h1;exact Q2 p h1 hg
  cases h
 | .snd::p,.pair t u,m,x,b,b0,r,h,hg=>by
  simp only[wk] at h;simp only[dA] at hg;split at h
  ·rename_i r1 h1;exact Q2 p h1 hg
  cases h
 | .idx i::p,.sl t,.o T tag me,xs,b,b0,r,h,hg=>by obtain⟨r1,h1,_⟩:=aaH h;simp only[dA] at hg;exact Q2 p h1 hg
theorem A9:∀ (q:Path) {t:Ty} {x y:t.I},cp q=true->valid q t x->valid q t y
 |[],_,_,_,_,_=>trivial
 | .fst::q,.pair a b,x,y,h,hv=>by simp only[valid] at hv ⊢;exact A9 q (by simpa[cp] using h) hv
 | .snd::q,.pair a b,x,y,h,hv=>by simp only[valid] at hv ⊢;exact A9 q (by simpa[cp] using h) hv
theorem ve:∀ (q:Path),depth q=0->cp q=true
 |[],_=>rfl
 | .fst::q,h=>by simp only[cp];exact ve q (by simpa[depth] using h)
 | .snd::q,h=>by simp only[cp];exact ve q (by simpa[depth] using h)
 | .deref::q,h=>by simp[depth] at h
 | .idx i::q,h=>by simp[depth] at h
theorem qE:∀ (q:Path) {t:Ty} {cs kS:List Value} {l:Option (Nat×Nat)},cp q=true->addrAt w q t cs l=addrAt w' q t kS l
 |[],_,_,_,_,_=>rfl
 | .fst::q,.pair a b,cs,kS,l,h=>by simp only[addrAt];exact qE q (by simpa[cp] using h)
 | .snd::q,.pair a b,cs,kS,l,h=>by simp only[addrAt];exact qE q (by simpa[cp] using h)
 | .fst::q,.int _,_,_,_,_=>by simp[addrAt]
 | .fst::q,.bool,_,_,_,_=>by simp[addrAt]
 | .fst::q,.str,_,_,_,_=>by simp[addrAt]
 | .fst::q,.sl _,_,_,_,_=>by simp[addrAt]
 | .fst::q,.ptr _,_,_,_,_=>by simp[addrAt]
 | .fst::q,.unit,_,_,_,_=>by simp[addrAt]
 | .fst::q,.arr _ _,_,_,_,_=>by simp[addrAt]
 | .fst::q,.mp,_,_,_,_=>by simp[addrAt]
 | .snd::q,.int _,_,_,_,_=>by simp[addrAt]
 | .snd::q,.bool,_,_,_,_=>by simp[addrAt]
 | .snd::q,.str,_,_,_,_=>by simp[addrAt]
 | .snd::q,.sl _,_,_,_,_=>by simp[addrAt]
 | .snd::q,.ptr _,_,_,_,_=>by simp[addrAt]
 | .snd::q,.unit,_,_,_,_=>by simp[addrAt]
 | .snd::q,.arr _ _,_,_,_,_=>by simp[addrAt]
 | .snd::q,.mp,_,_,_,_=>by simp[addrAt]
theorem Tx:∀ (q p:Path) {t:Ty} {m:Md} {x:t.I} {b:TV} {r:Md×t.I},wk b p t m x=some r->cp p=false->depth q<=1->valid q t x->valid q t r.2
 |[],_,_,_,_,_,_,_,_,_,_=>trivial
 | .deref::q,p,.ptr t,m,x,b,r,h,hp,hd,hv=>by simp only[valid] at hv ⊢;exact A9 q (ve q (by simp[depth] at hd;omega)) hv
 | .idx i::q,p,.sl t,m,xs,b,r,h,hp,hd,hv=>by
  simp only[valid] at hv ⊢;refine⟨?_,A9 q (ve q (by simp[depth] at hd;omega)) hv.2⟩;cases p with
  |nil=>simp[cp] at hp
  |cons s p=>
  cases s<;>cases m<;>simp[wk] at h;rename_i j T tag me;have h':wk b (.idx j::p) (.sl t) (.o T tag me) xs=some r:=by simp only[wk];exact h
  obtain⟨r1,_,_,rfl⟩:=aaH h';simpa using hv.1
 | .fst::q,p,.pair t u,m,x,b,r,h,hp,hd,hv=>by
  simp only[valid] at hv ⊢;cases p with
  |nil=>simp[cp] at hp
  |cons s p=>
  cases s<;>simp only[wk,reduceCtorEq] at h
  ·split at h
   ·rename_i r1 h1;injection h with h;subst h;exact Tx q p h1 (by simpa[cp] using hp) (by simpa[depth] using hd) hv
   cases h
  split at h
  ·rename_i r1 h1;injection h with h;subst h;exact hv
  cases h
 | .snd::q,p,.pair t u,m,x,b,r,h,hp,hd,hv=>by
  simp only[valid] at hv ⊢;cases p with
  |nil=>simp[cp] at hp
  |cons s p=>
  cases s<;>simp only[wk,reduceCtorEq] at h
  ·split at h
   ·rename_i r1 h1;injection h with h;subst h;exact hv
   cases h
  split at h
  ·rename_i r1 h1;injection h with h;subst h;exact Tx q p h1 (by simpa[cp] using hp) (by simpa[depth] using hd) hv
  cases h
theorem LH:∀ (q:Path) {t:Ty} {m:Md} {x:t.I} {cs:List Value} {ow:Nat->Prop} {hs:List Path} {l:Option (Nat×Nat)} {g:Nat×Nat},M w' A' H t m x cs ow hs->open_ q hs->valid q t x->depth q<=1->addrAt w q t cs l=some g->addrAt w' q t cs l=some g
 |[],_,_,_,_,_,_,_,_,_,_,_,_,e=>e
 | .deref::q,.ptr t,m,x,cs,ow,hs,l,g0,h,ho,hv,hd,e=>by
  have hq:cp q=true:=ve q (by simp[depth] at hd;omega);simp only[M] at h;rcases h with⟨hn,_⟩ |⟨hk,h⟩ |⟨T,tag,me,g,cur,rfl,rfl,ht,N9,hw,h⟩
  ·exact absurd hn ho.not_nil
  ·simp only[K] at h;obtain⟨g,off,cur,T,fr,rfl,hng,hw,hl,h⟩:=h;simp only[addrAt,eG hw hl,aI] at e ⊢;cases hr:rowAt w g off t.size with
   |none=>rw[hr] at e;cases e
   |some row=>rw[hr,aI] at e;rw[←e];exact qE q hq
  have rz:0+t.size<=cur.size:=(by rw[←(rB t h).1];simp);simp only[addrAt,eG hw rz,aI] at e ⊢;cases hr:rowAt w g 0 t.size with
  |none=>rw[hr] at e;cases e
  |some row=>rw[hr,aI] at e;rw[←e];exact qE q hq
 | .fst::q,.pair a b',m,x,cs,ow,hs,l,g0,h,ho,hv,hd,e=>by
  simp only[valid] at hv;simp only[M] at h;simp only[addrAt] at e ⊢;rcases h with⟨hn,_⟩ |⟨hk,h⟩ |⟨ma,mb,c0,c1,s,rfl,rfl,h0,h1⟩
  ·exact absurd hn ho.not_nil
  ·simp only[K] at h;obtain⟨c0,c1,rfl,h0,h1⟩:=h;rw[←(Fa a h0).1,dP] at e ⊢;exact LH q (tS (H:=H) (ow:=λ_=>False) (hs:=sub .fst hs) a h0) ho.sub hv (by simpa[depth] using hd) e
  rw[←(rB a h0).1,dP] at e ⊢;exact LH q h0 ho.sub hv (by simpa[depth] using hd) e
 | .snd::q,.pair a b',m,x,cs,ow,hs,l,g0,h,ho,hv,hd,e=>by
  simp only[valid] at hv;simp only[M] at h;simp only[addrAt] at e ⊢;rcases h with⟨hn,_⟩ |⟨hk,h⟩ |⟨ma,mb,c0,c1,s,rfl,rfl,h0,h1⟩
  ·exact absurd hn ho.not_nil
  ·simp only[K] at h;obtain⟨c0,c1,rfl,h0,h1⟩:=h;rw[←(Fa a h0).1,df] at e ⊢;exact LH q (tS (H:=H) (ow:=λ_=>False) (hs:=sub .snd hs) b' h1) ho.sub hv (by simpa[depth] using hd) e
  rw[←(rB a h0).1,df] at e ⊢;exact LH q h1 ho.sub hv (by simpa[depth] using hd) e
 | .idx i::q,.sl t,m,xs,cs,ow,hs,l,g0,h,ho,hv,hd,e=>by
  have hq:cp q=true:=ve q (by simp[depth] at hd;omega);simp only[valid] at hv;obtain⟨hi,hv⟩:=hv;simp only[M] at h;rcases h with⟨hn,_⟩ |⟨hk,h⟩ |⟨T,tag,me,X,c,rfl,rfl,hc,ht,h⟩
  ·exact absurd hn ho.not_nil
  ·simp only[K] at h;obtain⟨X,c,rfl,hc,h⟩:=h;obtain⟨g,off,cur,T,fr,rfl,hng,hw,hl,h⟩:=h (by omega);have hbound:off+i*t.size+t.size<=cur.size:=by have:=aC t.size (show i+1<=xs.length from hi);rw[bc,cH] at this;omega
   simp only[addrAt,eG hw hbound,aI] at e ⊢;cases hr:rowAt w g (off+i*t.size) t.size with
   |none=>rw[hr] at e;cases e
   |some row=>rw[hr,aI] at e;rw[←e];exact qE q hq
  rcases h with⟨rfl,_⟩ |⟨g,cur,τ,rfl,N9,hw,rz,hm,h⟩
  ·simp at hi
  have hbound:0+i*t.size+t.size<=cur.size:=(by have h1:=aC t.size (show i+1<=xs.length from hi);have h2:=aC t.size hc;rw[bc,cH] at h1;omega);simp only[addrAt,eG hw hbound,aI] at e ⊢;cases hr:rowAt w g (0+i*t.size) t.size with
  |none=>rw[hr] at e;cases e
  |some row=>rw[hr,aI] at e;rw[←e];exact qE q hq
theorem aqb:∀ (q p:Path) {t:Ty} {m:Md} {x:t.I} {b b1:TV} {r:Md×t.I},wk b p t m x=some r->dA q t m x=some b1->∀ m',∃ b2,dA q t m' r.2=some b2/\b2.t=b1.t:=by
 have key:∀ (q:Path) {t:Ty} {m m':Md} {x y:t.I} {b1:TV},dA q t m x=some b1->∃ b2,dA q t m' y=some b2/\b2.t=b1.t:=by
  intro q;induction q with
  |nil=>intro t m m' x y b1 h;simp only[dA,ah] at h;subst h;exact⟨_,rfl,rfl⟩
  |cons s q ih=>intro t m m' x y b1 h;cases s<;>cases t<;>simp only[dA,reduceCtorEq] at h ⊢;all_goals exact ih h
 intro q p t m x b b1 r _ h m';exact key q h
theorem SB (fZ:cN w w' A A') {d:Nat} {r r':TV} {ex ZR:List Path} (X5:r'.t=r.t) (hd:S.at d=.v r ex) (hd':S'.at d=.v r' ZR) (hS:∀ i r1 ex1,i≠d->S.at i=.v r1 ex1->S'.at i=.v r1 ex1) (hM:∃ kI afj,a6 r.t (tm d) kI/\M w' A' H r'.t r'.m r'.x kI afj ZR) (hex:∀ q∈ZR,q∈ex) (A3:∀ q,depth q<=1->valid q r.t r.x->valid q r'.t r'.x) (sj:∀ q b1,dA q r.t r.m r.x=some b1->∃ b2,dA q r'.t r'.m r'.x=some b2/\b2.t=b1.t) (hk:∀ s,s≠d->∃ own,Holds w A H tm S own (S.at s) (tm s)/\∀ g,own g->g<w.heap.size->w'.heap[g]?=w.heap[g]?) {own afj:Nat->Prop} (LD:∀ g,own g->g<w.heap.size->w'.heap[g]?=w.heap[g]? /\afj g) {av:AV} {v:Value} (hf:av.qq d=false) (h:Holds w A H tm S own av v):Holds w' A' H tm S' afj av v:=by
 have amD:∀ s,s≠d->Kept w w' A H tm tm S S' s:=λs hs=>⟨λr1 ex1=>hS s r1 ex1 hs,rfl,hk s hs⟩;have ax6:∀ {t:Ty} {q:Path} {r1:TV} {kI:List Value},depth q<=1->Ref tm S t d q r1 kI->r1=r/\Ref tm S' t d q r' kI:=by intro t q r1 kI hq hr;obtain⟨⟨ex1,h1,h2⟩,h3,⟨b1,h4,h5⟩,h6⟩:=hr;rw[hd] at h1;injection h1 with h1 h1';subst h1 h1';obtain⟨b2,k1,k2⟩:=sj q b1 h4;exact⟨rfl,⟨ZR,hd',λp hp=>h2 p (hex p hp)⟩,A3 q hq h3,⟨b2,k1,k2.trans h5⟩,by rw[X5];exact h6⟩
 cases av with
 |dead=>trivial
 |undef=>exact h
 |v b ex1=>obtain⟨cs,h1,h2⟩:=h;exact⟨cs,h1,b8 fZ _ (λg hg hl=>(LD g hg hl).1) (λg hg hl=>(LD g hg hl).2) (λ_ h=>h) h2⟩
 |QU l=>obtain⟨vs,τ,h1,h2,h3⟩:=h;refine⟨vs,τ,h1,h2,λj b hj=>?_⟩;obtain⟨u,cs,k1,k2,k3⟩:=h3 j b hj;exact⟨u,cs,k1,k2,b8 fZ _ (λg hg hl=>(LD g hg.1 hl).1) (λg hg hl=>⟨(LD g hg.1 hl).2,hg.2⟩) (λ_ h=>h) k3⟩
 |al t s p=>
  obtain⟨r1,kI,cs,hr,hc,hm⟩:=h;by_cases XL:s=d
  ·subst XL;cases p with
   |cons _ _=>simp[AV.qq] at hf
   |nil=>obtain⟨rfl,XP⟩:=ax6 (by simp[depth]) hr;exact⟨r',kI,cs,XP,hc,hm⟩
  obtain⟨h1,h2⟩:=hr.kept fZ (amD s XL);exact⟨r1,kI,cs,h1,by rw[(h2 none).1];exact hc,hm⟩
 |ad t s p=>
 obtain⟨r1,kI,g,off,hr,hc,hm⟩:=h;by_cases XL:s=d
 ·subst XL;have aAI:depth p<=1:=by
   simp only[AV.qq,bS,aA] at hf;have: ¬ 2<=depth p:=λh2=>by rw[tV h2] at hf;cases hf
   omega
  obtain⟨rfl,XP⟩:=ax6 aAI hr;obtain⟨cs1,auB,m1,m2⟩:=hM;obtain rfl:=oA m1 hr.mat;obtain⟨ex1,e1,e2⟩:=XP.at_;rw[hd'] at e1;injection e1 with _ e1;subst e1;refine⟨r',cs1,g,off,XP,LH (w:=w) p m2 e2 XP.val aAI (by rw[X5];exact hc),hm⟩
 obtain⟨h1,h2⟩:=hr.kept fZ (amD s XL);exact⟨r1,kI,g,off,h1,by rw[(h2 none).2];exact hc,hm⟩
 |cut t s p lo hi=>
 obtain⟨r1,kI,t',A1,n,c,hr,ht,hc,hm⟩:=h;by_cases XL:s=d
 ·subst XL;simp[AV.qq] at hf
 obtain⟨h1,h2⟩:=hr.kept fZ (amD s XL);exact⟨r1,kI,t',A1,n,c,h1,ht,by rw[(h2 none).1];exact hc,hm⟩
 |EL f kn=>
 obtain⟨vs,h1,h2,h3⟩:=h;refine⟨vs,h1,h2,λj c hj=>?_⟩;obtain⟨u,k1,k2⟩:=h3 j c hj;refine⟨u,k1,?_⟩;cases c with
 |kv b=>exact fA fZ _ k2
 |pl t s p=>
 by_cases XL:s=d
 ·subst XL;obtain⟨r1,kI,cs,hr,hc,hm⟩:=k2;cases p with
  |cons _ _=>have wj:=cV.1 hf _ (da hj);simp at wj
  |nil=>obtain⟨rfl,XP⟩:=ax6 (by simp[depth]) hr;exact⟨r',kI,cs,XP,hc,hm⟩
 exact Ie.kept fZ (λt1 s1 p1 e1=>by injection e1 with _ e1 _;subst e1;exact amD _ XL) k2
theorem afx:∀ (p h:Path),pre p h=true->∃ q,h=p++q
 |[],h,_=>⟨h,rfl⟩
 | .deref::p,.deref::h,e=>by obtain⟨q,rfl⟩:=afx p h (by simpa[pre] using e);exact⟨q,rfl⟩
 | .fst::p,.fst::h,e=>by obtain⟨q,rfl⟩:=afx p h (by simpa[pre] using e);exact⟨q,rfl⟩
 | .snd::p,.snd::h,e=>by obtain⟨q,rfl⟩:=afx p h (by simpa[pre] using e);exact⟨q,rfl⟩
theorem take_at {x:Operand} {av:AV} {b:TV} {s:Nat} {r:TV} {ex:List Path} (e:S.pA x av=some (b,S1)) (hs:S1.at s=.v r ex):∃ ex0,S.at s=.v r ex0/\∀ q∈ex0,q∈ex:=by
 have aow:∀ i,(S.put (some i) .dead).at s=.v r ex->S.at s=.v r ex:=by
  intro i h;rw[nm] at h;split at h
  ·simp[AV.refs] at h
  cases hr:(S.at s).refs i&&(S.at i).UX with
  |true=>rw[hr] at h;cases h
  |false=>rw[hr] at h;exact h
 cases av with
 |v b0 ex0=>
  simp only[St.pA] at e;cases hk:b0.m.eY with
  |true=>rw[hk] at e;simp only[ab,ah,aF] at e;obtain⟨_,rfl⟩:=e;exact⟨ex,hs,λ_ h=>h⟩
  |false=>
  rw[hk] at e;simp only[ae] at e;split at e
  ·simp only[ah,aF] at e;obtain⟨_,rfl⟩:=e;exact⟨ex,aow _ hs,λ_ h=>h⟩
  ·simp only[ah,aF] at e;obtain⟨_,rfl⟩:=e;exact⟨ex,hs,λ_ h=>h⟩
  cases e
 |al t s0 p=>
  simp only[St.pA] at e;split at e
  ·rename_i b' hb;cases hk:b'.m.eY with
   |true=>rw[hk] at e;simp only[ab,ah,aF] at e;obtain⟨_,rfl⟩:=e;exact⟨ex,hs,λ_ h=>h⟩
   |false=>
   rw[hk] at e;simp only[ae] at e;split at e
   ·simp only[ah,aF] at e;obtain⟨_,rfl⟩:=e;exact⟨ex,aow _ hs,λ_ h=>h⟩
   ·rename_i r2 ex2 _ nI;simp only[ah,aF] at e;obtain⟨_,rfl⟩:=e;rw[kT] at hs;split at hs
    ·rename_i hx;injection hs with h1 h2;subst h1 h2;rw[hx.1];exact⟨ex2,nI,λq hq=>eE _ hq⟩
    rw[aa9,z'] at hs;cases M7:(S.at s).qq s0 with
    |true=>rw[M7] at hs;simp at hs
    |false=>
    rw[M7] at hs;simp only[ae] at hs;split at hs
    ·cases hx:(Nat.beq _ s0&&under _ _) with
     |true=>rw[hx] at hs;cases hs
     |false=>rw[hx] at hs;cases hs
    exact⟨ex,hs,λ_ h=>h⟩
   cases e
  cases e
 |cut t s0 p lo hi=>
  cases p with
  |cons _ _=>simp[St.pA] at e
  |nil=>
  simp only[St.pA] at e;split at e
  ·cases hl:Nat.beq lo 0 with
   |false=>rw[hl] at e;cases e
   |true=>rw[hl] at e;simp only[ab,ah,aF] at e;obtain⟨_,rfl⟩:=e;exact⟨ex,aow _ hs,λ_ h=>h⟩
  cases e
 |_=>simp[St.pA] at e
end Go.Pv
namespace Go.Pv
open List Int IntKind
variable {P:Program} {w w':World} {A A' Wr:Nat->Prop} {H:Nat->Value} {tm N':Nat->Value} {S S' S1:St} {σ eo:Nat->Option Nat} {w0:World} {W0 Z:Nat->Prop} {a:Act} {own:Nat->Prop} {v:Value} {Θ:kR} {dst:Option Nat}
theorem Fr.setRow (h:Fr w0 W0 w) {g:Nat} {cs:Array Value} (hg:w0.heap.size<=g∨W0 g):Fr w0 W0 (w.setRow g cs):=by refine⟨h.os,h.tape,h.output,by rw[jQ];exact h.size,λk hk hn=>?_⟩;rw[kX w g k _ (λe=>by subst e;rcases hg with hg |hg;omega;exact hn hg)];exact h.block k hk hn
theorem aox (hT:kh P Θ=true) {T:TypeId} {t:Ty} {g off:Nat} {cs:List Value} {v:Value} {cur:Array Value} {T':TypeId} (ht:Θ.is T t=true) (hm:a6 t v cs) (hl:cs.length=t.size) (h1:∀ u∈cs,u.oneCell'=true) (hw:w.heap[g]?=some (.cells cur T' (0,0))) (hb:off+cs.length<=cur.size): (Instr.storeAt T (.pointer (some ⟨g,off,none⟩)) v).run P w=.ok () (w.setRow g (putCells cur.toList off cs).toArray):=by obtain⟨inf,hi,hs,_⟩:=xg hT ht;have:=run_storeCells_at (P:=P) g off T' cs 0 cur w hw (by omega) h1;simp only[dM] at this;simp[Instr.storeAt,Instr.sureAddr,storeVar,sizeOf,typeInfo,hi,hs,zu hm h1,hl];rw[hl] at this;unfold putCells;rw[hl];simpa using this
theorem Vo:∀ (p h:Path),vi p h=true->Zc p h=true->h=p
 |[],[],_,_=>rfl
 | .idx i::p,.idx j::h,e,e2=>by simp only[Zc,ai] at e2;rw[Vo p h (by simpa[vi] using e) e2.1,aw e2.2]
 | .deref::p,.deref::h,e,e2=>by rw[Vo p h (by simpa[vi] using e) (by simpa[Zc] using e2)]
 | .fst::p,.fst::h,e,e2=>by rw[Vo p h (by simpa[vi] using e) (by simpa[Zc] using e2)]
 | .snd::p,.snd::h,e,e2=>by rw[Vo p h (by simpa[vi] using e) (by simpa[Zc] using e2)]
 |[],.idx _::_,e,_ |[],.deref::_,e,_ |[],.fst::_,e,_ |[],.snd::_,e,_=>by simp[vi] at e
 | .idx _::_,[],e,_ | .deref::_,[],e,_ | .fst::_,[],e,_ | .snd::_,[],e,_=>by simp[vi] at e
 | .idx _::_,.deref::_,e,_ | .idx _::_,.fst::_,e,_ | .idx _::_,.snd::_,e,_=>by simp[vi] at e
 | .deref::_,.idx _::_,e,_ | .deref::_,.fst::_,e,_ | .deref::_,.snd::_,e,_=>by simp[vi] at e
 | .fst::_,.idx _::_,e,_ | .fst::_,.deref::_,e,_ | .fst::_,.snd::_,e,_=>by simp[vi] at e
 | .snd::_,.idx _::_,e,_ | .snd::_,.deref::_,e,_ | .snd::_,.fst::_,e,_=>by simp[vi] at e
theorem Vp {p q:Path}:∀ {l:List Path},q∈(pU p l).2->q∈l
 |[],h=>h
 |x::r,h=>by
  simp only[pU] at h;cases ha:vi p x with
  |true=>rw[ha] at h;exact er _ h
  |false=>
  rw[ha] at h;simp only[ae,aS] at h;rcases h with h |h
  ·rw[h];exact lS
  exact er _ (Vp h)
theorem SC {p q:Path}:∀ {l:List Path},(pU p l).1=true->(∀ q',q≠p++q')->q∈l->q∈(pU p l).2
 |[],_,_,h=>h
 |x::r,hc,hn,h=>by
  simp only[pU] at hc ⊢;cases ha:vi p x with
  |true=>
  rw[ha] at hc;simp only[ab] at hc ⊢;rcases aS.1 h with h |h
  ·subst h;exact absurd ((Vo p q ha hc).trans (b6 p).symm) (hn [])
  exact h
  |false=>
  rw[ha] at hc;simp only[ae] at hc ⊢;rcases aS.1 h with h |h
  ·rw[h];exact lS
  exact er _ (SC hc hn h)
def ax7 (Θ:kR) (T:TypeId) (x y:Operand) (S S':St) (a:Act) (w w':World):Prop:=∃ (av av2:AV) (t:Ty) (s:Nat) (p:Path) (b:TV) (S1:St) (r r':TV) (ex0 ex1:List Path) (cs kI:List Value) (g off:Nat) (cur:Array Value) (T':TypeId),S.pJ Θ 0 x=some av/\S.Tj x av=some (.pl t s p)/\S.pJ Θ T y=some av2/\S.pA y av2=some (b,S1)/\S.at s=.v r ex0/\S'.at s=.v r' ex1/\r'.t=r.t/\(∃ b0,dA p r.t r.m r.x=some b0/\b.t=b0.t)/\ a6 b.t (a.eval y) cs/\cs.length=b.t.size/\a6 r.t (gM a s) kI/\addrAt w p r.t kI none=some (g,off)/\w.heap[g]?=some (.cells cur T' (0,0))/\off+cs.length<=cur.size/\w'=w.setRow g (putCells cur.toList off cs).toArray
theorem akr (hT:kh P Θ=true) (h:cY σ w0 W0 Z H S a w) {o:Oper} {T:TypeId} {x y:Operand} (ho:o.op=.store T x y) (Fg:o.dst=none) (e:EN Θ S T x y=some (true,S')): ∃ w' nF,(execOp a.eval o).run P w=.ok .skip w'/\cY nF w0 W0 Z H S' a w'/\ax7 Θ T x y S S' a w w':=by
 unfold EN at e;split at e;case h_2=>cases e
 rename_i av pL;split at e;case h_2=>cases e
 rename_i t s p aAJ;unfold St.take at e;split at e;case h_2=>cases e
 rename_i b S1 hb;split at hb;case h_2=>cases hb
 rename_i av2 ahA;cases hc:Θ.is T b.t with
 |false=>rw[hc] at e;cases e
 |true=>
  rw[hc] at e;simp only[ab] at e;split at e;case h_2=>cases e
  rename_i r ex hs1;split at e;case h_2=>cases e
  rename_i m z KY;cases hex:ex.all (λq=>!under q p) with
 |false=>rw[hex] at e;cases e
 |true=>
  rw[hex] at e
  simp only[ab,ah,aF] at e
  obtain⟨hds,e⟩:=e
  have Vq:open_ p ex:=rL (λq hq=>by simpa using aJ.1 hex q hq)
  obtain⟨r0,ex0,q1,q2⟩:=PC h pL aAJ
  obtain⟨eo,cs,ow,h1,hm,hM,hk,hn⟩:=rM h ahA hb
  obtain⟨aD7,q3,q4⟩:=take_at hb hs1
  rw[q1] at q3
  injection q3 with q3 q3'
  subst q3 q3'
  obtain⟨kI,g,off,hr,JK,hx⟩:=q2 (λq hq=>Vq q (q4 q hq))
  obtain⟨b0,hb0,Rv⟩:=hr.get
  -- the slot,behind the take
  have hh:=h1.holds s
  rw[hs1] at hh
  obtain⟨aAK,hm0,hM0⟩:=hh
  obtain rfl:=oA hr.mat hm0
  have ZS:s<S1.length:=qs (by rw[hs1];exact λe=>by cases e)
  obtain⟨kS,kH,c1,c2,c3,Fe⟩:=XH p hM0 Vq hr.val hb0
  have rH:b.t=b0.t:=Q2 p KY hb0
  obtain⟨Nj,Fe⟩:=Fe b (m,z) rH KY
  have hpm:cp p=false:=by
   cases hp:cp p with
   |false=>rfl
   |true=>rw[qS p hp] at JK;cases JK
  -- the address is the same: the world is
  have aqc:addrAt w p r0.t kI none=some (g,off):=JK
  obtain⟨rA,Ni,cur,T',hw,hbound,_⟩:=Nj g off aqc
  obtain⟨hlen,auR⟩:=rB _ hM
  have Tn:off+cs.length<=cur.size:=by rw[hlen,rH];exact hbound
  have iu:=aox (P:=P) (w:=w) hT hc hm hlen auR hw Tn
  have Vr:∀ g',ow g'->eo g'≠some s:=λg' dH e'=>by
   obtain⟨i,hi,Ba⟩:=hk.now g' dH
   rw[e'] at Ba
   injection Ba with Ba
   omega
  let lU:Nat->Option Nat:=λg'=>open Classical in if ow g' then some s else eo g'
  have afy:∀ g' i,lU g'=some i->(ow g'/\i=s)∨(¬ow g'/\eo g'=some i):=λg' i dH=>by
   simp only[lU] at dH
   split at dH
   ·injection dH with dH;exact .inl ⟨by assumption,dH.symm⟩
   ·exact .inr ⟨by assumption,dH⟩
  have aee:∀ g' i,¬ow g'->eo g'=some i->lU g'=some i:=λg' i hn dH=>by simp only[lU,ar hn,dH]
  have auS:∀ g',Av lU Z g'->Av eo Z g':=λg' dH=>by
   rcases dH with⟨i,dH⟩ |dH
   ·rcases afy g' i dH with⟨hx,_⟩ |⟨_,hx⟩
    ·obtain⟨j,_,hj⟩:=hk.now g' hx
     exact .inl ⟨j,hj⟩
    ·exact .inl ⟨i,hx⟩
   ·exact .inr dH
  have rY:∀ k,k≠g->(w.setRow g (putCells cur.toList off cs).toArray).heap[k]?=w.heap[k]?:=λk hk=>kX w g k _ hk
  have fZ:cN w (w.setRow g (putCells cur.toList off cs).toArray) (Av eo Z) (Av lU Z):=⟨λk hk _=>rY k (λe'=>hk (by rw[e'];exact .inl ⟨s,rA⟩)),λk _ hk=>auS k hk⟩
  have hMb:M (w.setRow g (putCells cur.toList off cs).toArray) (Av lU Z) H b.t b.m b.x cs ow (U3 p (pU p (ex.filter λq=>!pre p q)).2):=by
   refine b8 ⟨λk uH _=>rY k (λe'=>uH (by rw[e'];exact hk.Av.1 (.inl ⟨s,rA⟩))),λk _ uH=>hk.Av.1 (auS k uH)⟩ _ (λk uH _=>rY k (λe'=>Vr k uH (by rw[e'];exact rA))) (λk uH _=>uH) (λ_ h=>by simp at h) hM
  have Vs:=Fe (w.setRow g (putCells cur.toList off cs).toArray) (Av lU Z) cs ow (pU p (ex.filter λq=>!pre p q)).2 fZ (by rw[hlen,rH]) (λk hk1 hk2 _=>by
    rw[aqc]
    simp only[F6]
    split
    ·rename_i hkg
     subst hkg
     exact⟨cur,T',hw,ik w k cur _ T' (0,0) hw⟩
    ·rename_i hkg
     exact rY k hkg) hMb (λk hk1 _ hk2=>absurd hk2 (Vr k hk1)) (λq hq1 hq2=>by
    refine SC hds hq1 (dp.2 ⟨hq2,?_⟩)
    cases hp:pre p q with
    |false=>rfl
    |true=>
     obtain⟨q',rfl⟩:=afx p q hp
     exact absurd rfl (hq1 q'))
  rw[DY p hpm] at Vs
  have aw4:M (w.setRow g (putCells cur.toList off cs).toArray) (Av lU Z) H r0.t m z kI (λg'=>lU g'=some s) (pU p (ex.filter λq=>!pre p q)).2:=by
   refine b8 (cN.refl _ _) _ (λ_ _ _=>rfl) (λk uH _=>?_) (λ_ h=>h) Vs
   rcases uH with⟨k1,_⟩ |k1
   ·exact aee k s (λhx=>Vr k hx k1) k1
   ·simp only[lU,ay k1]
  have aAL:((S1.weaken s).set s (.v ⟨r0.t,m,z⟩ (pU p (ex.filter λq=>!pre p q)).2)).length=S1.length:=by simp[St.weaken]
  refine⟨w.setRow g (putCells cur.toList off cs).toArray,lU,?_,?_,av,av2,t,s,p,b,S1,r0,⟨r0.t,m,z⟩,_,_,cs,kI,g,off,cur,T',pL,aAJ,ahA,hb,q1,by rw[←e,kT,ay ⟨rfl,by simp[St.weaken];exact ZS⟩],rfl,⟨b0,hb0,rH⟩,hm,hlen,hr.mat,JK,hw,Tn,rfl⟩
  ·simp only[execOp,ho,hx,aZ,iu,aV]
   rfl
  ·show cY lU w0 W0 Z H S' a (w.setRow g (putCells cur.toList off cs).toArray)
   have nI:∀ i,S'.at i=if i=s then .v ⟨r0.t,m,z⟩ (pU p (ex.filter λq=>!pre p q)).2 else bif (S1.at i).qq s then .dead else S1.at i:=by
    intro i
    rw[←e,kT]
    by_cases hi:i=s
    ·rw[ay hi,ay ⟨hi,by simp[St.weaken];exact ZS⟩]
    ·rw[ar hi,ar (λh=>hi h.1),z']
   refine⟨by rw[←e,aAL];exact h1.len,h1.defers,h1.fr.setRow (h1.new g s rA),λg' i dH=>?_,λg' i dH=>?_,λg' dH=>⟨?_,(h1.old g' dH).2⟩,λi=>?_⟩
   ·rcases afy g' i dH with⟨hx,_⟩ |⟨_,hx⟩
    ·obtain⟨j,_,hj⟩:=hk.now g' hx
     exact h1.new g' j hj
    ·exact h1.new g' i hx
   ·rw[jQ]
    rcases afy g' i dH with⟨hx,_⟩ |⟨_,hx⟩
    ·obtain⟨j,_,hj⟩:=hk.now g' hx
     exact h1.lt g' j hj
    ·exact h1.lt g' i hx
   ·have:=(h1.old g' dH).1
    simp only[lU]
    split
    ·rename_i hx
     obtain⟨j,_,hj⟩:=hk.now g' hx
     rw[this] at hj
     cases hj
    ·exact this
   ·rw[nI i]
    by_cases his:i=s
    ·subst his
     rw[ay rfl]
     exact⟨kI,hr.mat,aw4⟩
    ·rw[ar his]
     by_cases hil:i<S1.length
     rotate_left
     ·have:S1.at i=.dead:=ca λhx=>hil (qs hx)
      rw[this]
      trivial
     cases M7:(S1.at i).qq s with
     |true=>trivial
     |false=>
      simp only[ae]
      refine SB (r:=r0) (r':=⟨r0.t,m,z⟩) (ex:=ex) (ZR:=(pU p (ex.filter λq=>!pre p q)).2) fZ rfl hs1 (by rw[nI s,ay rfl]) (λj r1 ex1 hj hv=>by rw[nI j,ar hj,hv];simp[AV.qq]) ⟨kI,_,hr.mat,aw4⟩ (λq hq=>(dp.1 (Vp hq)).1)
       (λq hq hv=>Tx q p KY hpm hq hv) (λq b1 hq=>aqb q p KY hq m) (λj hj=>⟨_,h1.holds j,λg' dH _=>rY g' (λe'=>by subst e';rw[rA] at dH;injection dH with dH;exact hj dH.symm)⟩)
       (λg' dH _=>⟨rY g' (λe'=>by subst e';rw[rA] at dH;injection dH with dH;exact his dH.symm),aee g' i (λhx=>?_) dH⟩) M7 (h1.holds i)
      obtain⟨j,hj1,M8⟩:=hk.now g' hx
      rw[dH] at M8
      injection M8 with M8
      omega
theorem aqd (hT:kh P Θ=true) (h:cY σ w0 W0 Z H S a w) {o:Oper} {T:TypeId} {x y:Operand} (ho:o.op=.store T x y) (Fg:o.dst=none) (e:EN Θ S T x y=some (true,S')):adv P w0 W0 Z H S' a o.dst w (execOp a.eval o):=by obtain⟨w',nF,h1,h2,_⟩:=akr hT h ho Fg e;rw[Fg];exact⟨w',undef,.inr ⟨rfl,h1⟩,nF,h2⟩
end Go.Pv
namespace Go.Pv
open List Int IntKind
variable {P:Program} {w w':World} {A A' Wr:Nat->Prop} {H:Nat->Value} {tm N':Nat->Value} {S S' S1:St} {σ eo lU:Nat->Option Nat} {w0:World} {W0 Z:Nat->Prop} {a:Act} {own:Nat->Prop} {v:Value} {Θ:kR} {dst:Option Nat}
theorem ahB (off:Nat):∀ (l:List Value) (k:Nat) (cells:Array Value),off+k+l.length<=cells.size-> ((l.zipIdx k).foldl (λ(cs:Array Value) (x:Value×Nat)=>cs.setIfInBounds (off+x.2) x.1) cells).toList=putCells cells.toList (off+k) l
 |[],k,cells,h=>by simp[putCells]
 |c::l,k,cells,h=>by
  simp only[List.zipIdx_cons,lh];simp only[ak] at h;rw[ahB off l (k+1) (cells.setIfInBounds (off+k) c) (by simp;omega)];have h1:off+k<cells.toList.length:=by simp;omega
  apply cU;intro j;rw[yS _ _ _ _ (by simp;omega),yS _ _ _ _ (by simp;omega)];simp only[Array.toList_setIfInBounds,ak];by_cases hj:j<off+k
  ·rw[ay (by omega),ay hj,lP (by omega)]
  by_cases M8:j=off+k
  ·subst M8;rw[ay (by omega),ar (by omega),ay (by omega),mY h1];simp
  by_cases hj3:j<off+k+1+l.length
  ·rw[ar (by omega),ay (by omega),ar (by omega),ay (by omega),show j - (off+k)=(j - (off+(k+1)))+1 from by omega];simp
  rw[ar (by omega),ar (by omega),ar (by omega),ar (by omega),lP (by omega)]
def LI (kY:List (List Value)) (i:Nat):Nat:=((kY.take i).map length).sum
theorem Nv (kY:List (List Value)) (i:Nat) (h:i<kY.length):kY.flatten=(kY.take i).flatten++(kY[i]++(kY.drop (i+1)).flatten):=by
 conv=>lhs;rw[←dS i kY]
 rw[List.flatten_append,aT h,gv]
theorem abc (kY:List (List Value)) (i:Nat):(kY.take i).flatten.length=LI kY i:=by simp[LI,rJ]
theorem auT (kY:List (List Value)) (i:Nat) (c:List Value) (h:i<kY.length) (hc:c.length=kY[i].length):putCells kY.flatten (LI kY i) c=(kY.set i c).flatten:=by
 have e1:=Nv kY i h;have e2:=Nv (kY.set i c) i (by simpa using h);rw[e2];simp only[List.getElem_set_self];rw[List.take_set_of_le (by omega),List.drop_set_of_lt (by omega)];have hd:kY.flatten.drop (LI kY i+c.length)=(kY.drop (i+1)).flatten:=by rw[e1,←abc,hc,←bu,←ax,df]
 have ht:kY.flatten.take (LI kY i)=(kY.take i).flatten:=by rw[e1,←abc,dP]
 unfold putCells;rw[hd,ht,bu]
theorem aqe (kY:List (List Value)) (i j:Nat) (c:List Value) (h:i<kY.length) (hc:c.length=kY[i].length):LI (kY.set i c) j=LI kY j:=by
 unfold LI;congr 1;apply cU;intro k;simp only[bO,bM,iF];split
 ·by_cases hk:i=k
  ·subst hk;simp[h,hc]
  simp[hk]
 rfl
theorem aqf (kY:List (List Value)) (i:Nat) (h:i<kY.length):LI kY i+kY[i].length<=kY.flatten.length:=by rw[Nv kY i h,ax,ax,abc];omega
def ahC (f:Nat->Option (List Value)) (kY:List (List Value)):List (List Value):=kY.mapIdx λi c=>(f i).getD c
theorem aef (place:Nat->Option (Nat×Nat)):∀ (parts:List (Nat×Value)) (kY:List (List Value)),(∀ i (h:i<kY.length),place i=some (LI kY i,kY[i].length))->
  (∀ q∈parts,∃ h:q.1<kY.length,q.2.cells.size=kY[q.1].length)->(parts.map (·.1)).Nodup->
  Instr.fill place kY.flatten.toArray parts=some (ahC (λi=>(parts.find? (λq=>Nat.beq q.1 i)).map (·.2.cells.toList)) kY).flatten.toArray
 |[],kY,_,_,_=>by
  have:ahC (λi=>(([]:List (Nat×Value)).find? (λq=>Nat.beq q.1 i)).map (·.2.cells.toList)) kY=kY:=by
   unfold ahC
   apply cU
   intro k
   simp[rI]
  rw[this];rfl
 |(i,v)::rest,kY,hp,hs,hn=>by
  obtain⟨hi,hv⟩:=hs (i,v) (by simp)
  simp only at hi hv
  have Tn:=aqf kY i hi
  simp only[Instr.fill,hp i hi]
  have aAM:=Tn
  rw[rJ] at aAM
  rw[ar (by simp[hv];omega)]
  have hlen:v.cells.toList.length=kY[i].length:=by simpa using hv
  have aAN:v.cells.zipIdx.foldl (λcs (x:Value×Nat)=>cs.setIfInBounds (LI kY i+x.2) x.1) kY.flatten.toArray=(kY.set i v.cells.toList).flatten.toArray:=by
   have:=ahB (LI kY i) v.cells.toList 0 kY.flatten.toArray (by simp only[hlen,cd];omega)
   rw[←auT kY i v.cells.toList hi hlen]
   apply hY.1
   rw[←Array.foldl_toList,Array.toList_zipIdx]
   simpa using this
  simp only[bz,ek] at hn
  have KY:∀ (k:Nat) (hk:k<(kY.set i v.cells.toList).length),(kY.set i v.cells.toList)[k].length=(kY[k]'(by simpa using hk)).length:=by
   intro k hk
   rw[List.getElem_set]
   split
   ·rename_i e;subst e;exact hlen
   ·rfl
  have ih:=aef place rest (kY.set i v.cells.toList) (λk hk=>by rw[aqe kY i k _ hi hlen,KY k hk];exact hp k (by simpa using hk)) (λq hq=>by
   obtain⟨h1,h2⟩:=hs q (by simp[hq])
   exact⟨by simpa using h1,by rw[KY];exact h2⟩) hn.2
  refine(br (λc=>Instr.fill place c rest) aAN).trans (ih.trans ?_)
  congr 3
  unfold ahC
  apply cU
  intro k
  simp only[rI,iF]
  by_cases hk:i=k
  ·subst hk
   have:rest.find? (λq=>Nat.beq q.1 i)=none:=List.find?_eq_none.2 λq hq e=>hn.1 (cg.2 ⟨q,hq,aw e⟩)
   simp[hi,this]
  ·have:Nat.beq i k=false:=by
    cases hb:Nat.beq i k with
    |false=>rfl
    |true=>exact absurd (aw hb) hk
   simp[hk,this]
end Go.Pv
namespace Go.Pv
open List Int IntKind
variable {P:Program} {w w':World} {A A' Wr:Nat->Prop} {H:Nat->Value} {tm N':Nat->Value} {S S' S1:St} {σ eo lU:Nat->Option Nat} {w0:World} {W0 Z:Nat->Prop} {a:Act} {own:Nat->Prop} {v:Value} {Θ:kR} {dst:Option Nat}
theorem wb.trans {n:Nat} {ow1 LF:Nat->Prop} (h1:wb σ eo n ow1) (h2:wb eo lU n LF):wb σ lU n (λg=>ow1 g∨LF g):=by
 refine⟨λg hg=>?_,λg hg=>?_,λg i hg hi=>h1.sub g i (h2.sub g i hg hi) hi,λg=>(h2.dom g).trans (h1.dom g),λg i hg hi=>h2.par g i (h1.par g i hg hi) hi⟩
 ·rcases hg with hg |hg
  ·exact h1.was g hg
  obtain⟨i,hi,Ba⟩:=h2.was g hg;exact⟨i,hi,h1.sub g i Ba hi⟩
 rcases hg with hg |hg
 ·obtain⟨i,hi,Ba⟩:=h1.now g hg;exact⟨i,hi,h2.par g i Ba hi⟩
 exact h2.now g hg
theorem wb.apart {n:Nat} {ow1 LF:Nat->Prop} (h1:wb σ eo n ow1) (h2:wb eo lU n LF) {g:Nat} (hg:ow1 g): ¬LF g:=λNi=>by obtain⟨i,hi,Ba⟩:=h1.now g hg;obtain⟨j,hj,M8⟩:=h2.was g Ni;rw[Ba] at M8;injection M8 with M8;omega
theorem Il:∀ (t:Ty),(zc t).length=t.size
 | .int _=>rfl | .bool=>rfl | .str=>rfl | .sl _=>rfl | .ptr _=>rfl | .unit=>rfl | .mp=>rfl
 | .pair a b=>by simp[zc,Ty.size,Il a,Il b]
 | .arr n t=>by simp[zc,Ty.size,rJ,Il t]
theorem Nw (hT:kh P Θ=true) (ps:List (Nat×Operand)):∀ (Ts:List TypeId) (j:Nat) {S S1:St} {σ:Nat->Option Nat} {l:List TV},cY σ w0 W0 Z H S a w->S.parts Θ ps Ts j=some (l,S1)-> ∃ (eo:Nat->Option Nat) (ow:Nat->Prop) (τ:Nat->Nat) (rX:List (List Value)),cY eo w0 W0 Z H S1 a w/\S1.length=S.length/\wb σ eo S.length ow/\rX.length=l.length/\l.length=Ts.length/\(∀ g,ow g->j<=τ g)/\ ∀ (k:Nat) (b:TV),l[k]?=some b->∃ cs,rX[k]?=some cs/\M w (Av σ Z) H b.t b.m b.x cs (λg=>ow g/\τ g=j+k) []/\ ((∃ q,ps.find? (λq=>Nat.beq q.1 (j+k))=some q/\a6 b.t (a.eval q.2) cs)∨(ps.find? (λq=>Nat.beq q.1 (j+k))=none/\cs=zc b.t))
 |[],j,S,S1,σ,l,h,e=>by simp only[St.parts,ah,aF] at e;obtain⟨rfl,rfl⟩:=e;exact⟨σ,λ_=>False,λ_=>j,[],h,rfl,wb.none _ _,rfl,rfl,λ_ h=>h.elim,λk b hk=>by simp at hk⟩
 |T::Ts,j,S,S1,σ,l,h,e=>by
  simp only[St.parts] at e;split at e
  ·rename_i q hq;unfold St.take at e;split at e;case h_2=>cases e
   rename_i b S2 hb;split at hb;case h_2=>cases hb
   rename_i av pL;split at e;case h_2=>cases e
   rename_i l2 S3 hl2;simp only[ah,aF] at e;obtain⟨rfl,rfl⟩:=e;obtain⟨eo,cs,ow,h1,hm,hM,hk,hn⟩:=rM h pL hb;obtain⟨lU,LF,τ,rX,r1,r2,r3,r4,r5,r6,r7⟩:=Nw hT ps Ts (j+1) h1 hl2;rw[hn] at r3;have hap:∀ g,ow g->¬LF g:=λg hg=>hk.apart r3 hg;let τ':Nat->Nat:=λg=>open Classical in if ow g then j else τ g
   refine⟨lU,λg=>ow g∨LF g,τ',cs::rX,r1,by omega,hk.trans r3,by simp[r4],by simp[r5],λg hg=>?_,λk b' uH=>?_⟩
   ·simp only[τ'];split
    ·exact aM _
    rename_i hx;have:=r6 g (hg.resolve_left hx);omega
   cases k with
   |zero=>simp only[aD,ah] at uH;subst uH;refine⟨cs,rfl,b8 (cN.refl _ _) _ (λ_ _ _=>rfl) (λg hg _=>⟨.inl hg,by simp only[τ',ay hg,dM]⟩) (λ_ h=>h) hM,.inl ⟨q,hq,hm⟩⟩
   |succ k=>simp only[eO] at uH ⊢;obtain⟨c2,d1,d2,d3⟩:=r7 k b' uH;refine⟨c2,d1,b8 ⟨λ_ _ _=>rfl,λg _ hg=>hk.Av.2 hg⟩ _ (λ_ _ _=>rfl) (λg hg _=>⟨.inr hg.1,?_⟩) (λ_ h=>h) d2,by rw[show j+(k+1)=j+1+k from by omega];exact d3⟩;simp only[τ'];rw[ar (λhx=>hap g hx hg.1),hg.2];omega
  rename_i hq;split at e;case h_2=>cases e
  rename_i b hb;split at e;case h_2=>cases e
  rename_i l2 S3 hl2;simp only[ah,aF] at e;obtain⟨rfl,rfl⟩:=e;obtain⟨i,inf,zv,_,_,hx,Tn,_⟩:=X4 hT hb;obtain⟨lU,LF,τ,rX,r1,r2,r3,r4,r5,r6,r7⟩:=Nw hT ps Ts (j+1) h hl2;refine⟨lU,LF,τ,zc b.t::rX,r1,r2,r3,by simp[r4],by simp[r5],λg hg=>by have:=r6 g hg;omega,λk b' uH=>?_⟩;cases k with
  |zero=>simp only[aD,ah] at uH;subst uH;refine⟨_,rfl,afw ?_,.inr ⟨hq,rfl⟩⟩;rw[hx];exact abb _ Tn
  |succ k=>simp only[eO] at uH ⊢;obtain⟨c2,d1,d2,d3⟩:=r7 k b' uH;exact⟨c2,d1,b8 (cN.refl _ _) _ (λ_ _ _=>rfl) (λg hg _=>⟨hg.1,by rw[hg.2];omega⟩) (λ_ h=>h) d2,by rw[show j+(k+1)=j+1+k from by omega];exact d3⟩
theorem abd {ps:List (Nat×Operand)} {l:List TV} {rX:List (List Value)} {place:Nat->Option (Nat×Nat)} (hl:rX.length=l.length) (hpl:EM l.length ps=true) (hlen:∀ (k:Nat) (b:TV) (cs:List Value),l[k]?=some b->rX[k]?=some cs->cs.length=b.t.size/\∀ u∈cs,u.oneCell'=true) (xb:∀ (k:Nat) (b:TV),l[k]?=some b->∃ cs,rX[k]?=some cs/\((∃ q,ps.find? (λq=>Nat.beq q.1 k)=some q/\a6 b.t (a.eval q.2) cs)∨(ps.find? (λq=>Nat.beq q.1 k)=none/\cs=zc b.t))) (aAO:∀ i (h:i<l.length),place i=some (LI (l.map λb=>zc b.t) i,l[i].t.size)): Instr.fill place (l.map λb=>zc b.t).flatten.toArray (ps.map λq=>(q.1,a.eval q.2))=some rX.flatten.toArray:=by
 have hp:∀ {n:Nat} {ps:List (Nat×Operand)},EM n ps=true->(∀ q∈ps,q.1<n)/\(ps.map (·.1)).Nodup:=by
  intro n ps;induction ps with
  |nil=>intro _;exact⟨λ_ h=>by simp at h,by simp⟩
  |cons q r ih=>
  intro h;simp only[EM,ai] at h;obtain⟨⟨h1,h2⟩,h3⟩:=h;obtain⟨i1,i2⟩:=ih h3;refine⟨λq' OV=>?_,?_⟩
  ·rcases aS.1 OV with rfl |OV
   ·exact jC (bJ h1)
   exact i1 q' OV
  simp only[bz,ek];refine⟨λhm=>?_,i2⟩;obtain⟨q',OV,e⟩:=cg.1 hm;have:(r.any λq'=>Nat.beq q'.1 q.1)=true:=dk.2 ⟨q',OV,by rw[e];exact bS _⟩;rw[this] at h2;cases h2
 obtain⟨gC,hnd⟩:=hp hpl;have sj:∀ i (h:i<l.length),l[i]?=some l[i]:=λi h=>aN h;have ap8:∀ (i:Nat) (q:Nat×Operand),q∈ps->q.1=i->ps.find? (λq=>Nat.beq q.1 i)=some q:=by
  intro i q hq hi;subst hi;clear xb hlen aAO hpl gC;induction ps with
  |nil=>simp at hq
  |cons q' r ih=>
  simp only[bz,ek] at hnd;rcases aS.1 hq with rfl |hq
  ·simp
  have:Nat.beq q'.1 q.1=false:=by
   cases hb:Nat.beq q'.1 q.1 with
   |false=>rfl
   |true=>exact absurd (cg.2 ⟨q,hq,(aw hb).symm⟩) hnd.1
  rw[List.find?_cons,this];exact ih hnd.2 hq
 rw[aef place _ (l.map λb=>zc b.t) (λi h=>by
  rw[aAO i (by simpa using h)]
  simp[Il]) (λq hq=>by
  obtain⟨q0,hq0,rfl⟩:=cg.1 hq
  have hi:=gC q0 hq0
  refine⟨by simpa using hi,?_⟩
  obtain⟨cs,h1,h2⟩:=xb q0.1 _ (sj q0.1 hi)
  obtain⟨h3,h4⟩:=hlen _ _ _ (sj q0.1 hi) h1
  rcases h2 with⟨q,OV,hm⟩ |⟨OV,_⟩
  ·rw[ap8 q0.1 q0 hq0 rfl] at OV
   injection OV with OV
   subst OV
   rw[zu hm h4]
   simp[h3,Il]
  ·rw[ap8 q0.1 q0 hq0 rfl] at OV;cases OV) (by simpa[nZ,tW] using hnd)]
 congr 3;unfold ahC;apply cU;intro k;rw[rI];by_cases hk:k<l.length
 ·simp only[bO,sj k hk,aP];obtain⟨cs,h1,h2⟩:=xb k _ (sj k hk);obtain⟨h3,h4⟩:=hlen _ _ _ (sj k hk) h1;rw[h1];rw[List.find?_map];simp only[tW];rcases h2 with⟨q,OV,hm⟩ |⟨OV,he⟩
  ·rw[OV];simp only[aP,qj];rw[zu hm h4]
  rw[OV];simp[he]
 rw[cv (by simpa using hk),cv (by omega)];rfl
end Go.Pv
namespace Go.Pv
open List Int IntKind
variable {P:Program} {w w':World} {A A' Wr:Nat->Prop} {H:Nat->Value} {tm N':Nat->Value} {S S' S1:St} {σ eo lU:Nat->Option Nat} {w0:World} {W0 Z:Nat->Prop} {a:Act} {own:Nat->Prop} {v:Value} {Θ:kR} {dst:Option Nat}
theorem aw5 {ow:Nat->Prop} {τ:Nat->Nat}:∀ (l:List TV) (rX:List (List Value)) (j:Nat),rX.length=l.length-> (∀ (k:Nat) (b:TV),l[k]?=some b->∃ cs,rX[k]?=some cs/\M w A H b.t b.m b.x cs (λg=>ow g/\τ g=j+k) [])-> M w A H (mkS l).t (mkS l).m (mkS l).x rX.flatten (λg=>ow g/\j<=τ g) []
 |[],rX,j,hl,_=>by obtain rfl:rX=[]:=dQ (by simpa using hl);simp[mkS,M,K,Md.eY]
 |[a],rX,j,hl,h=>by
  obtain⟨cs,h1,h2⟩:=h 0 a rfl
  match rX,hl with
  |[c],_=>
   simp only[aD,ah] at h1
   subst h1
   simp only[mkS,gv,List.flatten_nil,b6]
   exact b8 (cN.refl _ _) _ (λ_ _ _=>rfl) (λg hg _=>⟨hg.1,by rw[hg.2];omega⟩) (λ_ h=>h) h2
 |a::b::r,rX,j,hl,h=>by
  match rX,hl with
  |c::cs,hl=>
   obtain⟨c',h1,h2⟩:=h 0 a rfl
   simp only[aD,ah] at h1
   subst h1
   have ih:=aw5 (ow:=ow) (τ:=τ) (b::r) cs (j+1) (by simpa using hl) (λk b' hk=>by
    obtain⟨c',h1,h2⟩:=h (k+1) b' (by simpa using hk)
    exact⟨c',by simpa using h1,b8 (cN.refl _ _) _ (λ_ _ _=>rfl) (λg hg _=>⟨hg.1,by rw[hg.2];omega⟩) (λ_ h=>h) h2⟩)
   simp only[mkS,gv]
   refine U2 (s:=λg=>τ g=j) ?_ ?_
   ·exact b8 (cN.refl _ _) _ (λ_ _ _=>rfl) (λg hg _=>⟨⟨hg.1,by rw[hg.2];omega⟩,by rw[hg.2];rfl⟩) (λ_ h=>by simp at h) h2
   ·exact b8 (cN.refl _ _) _ (λ_ _ _=>rfl) (λg hg _=>⟨⟨hg.1,by omega⟩,by omega⟩) (λ_ h=>by simp at h) ih
theorem aks {ow:Nat->Prop} {τ:Nat->Nat} {l:List TV} {rX:List (List Value)} (hl:rX.length=l.length) (h:∀ (k:Nat) (b:TV),l[k]?=some b->∃ cs,rX[k]?=some cs/\M w A H b.t b.m b.x cs (λg=>ow g/\τ g=0+k) []): M w A H (pV l).t (pV l).m (pV l).x rX.flatten ow []:=by
 have h0:=aw5 (ow:=ow) (τ:=τ) l rX 0 hl h;have h1:M w A H (mkS l).t (mkS l).m (mkS l).x rX.flatten ow []:=b8 (cN.refl _ _) _ (λ_ _ _=>rfl) (λg hg _=>hg.1) (λ_ h=>h) h0;cases l with
 |nil=>exact h1
 |cons a r=>
 cases r with
 |cons b r=>exact h1
 |nil=>have:M w A H (.pair a.t .unit) (mkM a.m .k) (a.x,()) (rX.flatten++[]) ow []:=U2 (s:=λ_=>True) (b8 (cN.refl _ _) _ (λ_ _ _=>rfl) (λg hg _=>⟨hg,trivial⟩) (λ_ h=>by simp at h) h1) (by simp[M,K,Md.eY]);rw[b6] at this;exact this
theorem amE:∀ (l:List TV) (k:Nat) (h:k<l.length),wa (if k+1=l.length then List.replicate k .snd else List.replicate k .snd++[.fst]) (mkS l).t=some l[k].t/\ cA (if k+1=l.length then List.replicate k .snd else List.replicate k .snd++[.fst]) (mkS l).t=LI (l.map λb=>zc b.t) k
 |[a],k,h=>by obtain rfl:k=0:=(by simpa using h);simp[mkS,wa,cA,LI]
 |a::b::r,0,h=>by simp[mkS,wa,cA,LI]
 |a::b::r,k+1,h=>by
  obtain⟨h1,h2⟩:=amE (b::r) k (by simpa using h);have e:(if k+1+1=(a::b::r).length then List.replicate (k+1) Step.snd else List.replicate (k+1) .snd++[.fst])=.snd::(if k+1=(b::r).length then List.replicate k Step.snd else List.replicate k .snd++[.fst]):=by
   simp only[ak];by_cases hk:k=r.length
   ·rw[ay (by omega),ay (by omega)];rfl
   rw[ar (by omega),ar (by omega)];rfl
  rw[e];simp only[mkS,wa,cA];refine⟨h1,?_⟩;rw[h2];simp only[bz,LI,n0,bz,pY,Il]
theorem afz (l:List TV) (k:Nat) (h:k<l.length):wa (JI k l.length) (pV l).t=some l[k].t/\cA (JI k l.length) (pV l).t=LI (l.map λb=>zc b.t) k:=by
 match l,h with
 |[a],h=>
  obtain rfl:k=0:=by simpa using h
  simp[pV,JI,wa,cA,LI]
 |a::b::r,h=>
  have:=amE (a::b::r) k h
  have e:JI k (a::b::r).length=if k+1=(a::b::r).length then List.replicate k .snd else List.replicate k .snd++[.fst]:=by
   unfold JI
   by_cases hk:k+1=(a::b::r).length
   ·have h1:Nat.beq (k+1) (a::b::r).length=true:=by rw[←hk];exact bS _
    rw[ay hk,h1]
    have:Nat.beq (a::b::r).length 1=false:=by
     simp only[ak]
     rfl
    rw[this]
    rfl
   ·rw[ar hk]
    have:Nat.beq (k+1) (a::b::r).length=false:=by
     cases hb:Nat.beq (k+1) (a::b::r).length with
     |false=>rfl
     |true=>exact absurd (aw hb) hk
    rw[this]
    rfl
  rw[e]
  exact this
theorem ahD (l:List TV):zc (pV l).t=(l.map λb=>zc b.t).flatten:=by
 have h:∀ l:List TV,zc (mkS l).t=(l.map λb=>zc b.t).flatten:=by
  intro l;induction l with
  |nil=>simp[mkS,zc]
  |cons a r ih=>
  cases r with
  |nil=>simp[mkS]
  |cons b r=>simp only[mkS,zc,bz,gv];rw[ih];simp
 unfold pV;split
 ·simp[zc]
 exact h l
theorem mapM_some {α β:Type} {g:α->Option β} {h:α->β}:∀ (l:List α),(∀ f∈l,g f=some (h f))->l.mapM g=some (l.map h)
 |[],_=>by simp
 |f::r,hf=>by rw[su,hf f (by simp),mapM_some r λf hf'=>hf f (by simp[hf'])];rfl
theorem aqg (hT:kh P Θ=true) (h:cY σ w0 W0 Z H S a w) {o:Oper} {T:TypeId} {ps:Array (Nat×Operand)} (ho:o.op=.build T ps) (e:U0 Θ S o.dst T ps.toList=some (true,S')):Df P w0 W0 Z H S' a o.dst w (execOp a.eval o):=by
 unfold U0 at e;split at e;case h_2=>cases e
 rename_i i hi;split at e;case h_2=>cases e
 rename_i l S1 hl;cases hc:(decide ((pV l).t=i.ty)&&U0.apy i.ty&&EM l.length ps.toList) with
 |false=>rw[hc] at e;cases e
 |true=>
 rw[hc] at e;simp only[ab,ah,aF,cl] at e;simp only[ai,au] at hc;obtain⟨⟨rH,aw6⟩,hpl⟩:=hc;obtain⟨eo,ow,τ,rX,h1,hn,hk,Da,hll,hj,D0⟩:=Nw hT ps.toList i.fs 0 h hl;obtain⟨⟨_,inf,z,k1,k2,_,_,_,k3,k4⟩,hu,rfl⟩:=kV hT hi;obtain⟨pa,pb,hpp⟩:∃ pa pb,i.ty=.pair pa pb:=by cases aqh:i.ty<;>rw[aqh] at aw6<;>first |exact⟨_,_,rfl⟩ |cases aw6
 obtain⟨fs,f1,f2,f3,_⟩:=Ii hu hpp;have XZ:fs.toList.length=l.length:=by rw[hll,←f2,aY]
 have hM:M w (Av σ Z) H (pV l).t (pV l).m (pV l).x rX.flatten ow []:=aks Da (λk b hb=>by obtain⟨cs,c1,c2,_⟩:=D0 k b hb;exact⟨cs,c1,c2⟩);have auU:∀ f∈fs.toList,(P.info? f.type).map (λi=>(f.offset,i.size))=some (f.offset,P.cellsOf f.type):=by intro f hf;obtain⟨k,hk,rfl⟩:=bo.1 hf;obtain⟨t,_,ht,_⟩:=Ab f3 k _ (aN hk);obtain⟨aDa,i1,i2,i3⟩:=xg hT ht;rw[i1,aP,i2,i3]
 have aqi:=abd (a:=a) (ps:=ps.toList) (l:=l) (rX:=rX) (place:=λk=>(fs.toList.map λf=>(f.offset,P.cellsOf f.type)).toArray[k]?) Da hpl (λk b cs hb xb=>by
  obtain⟨kS,c1,c2,_⟩:=D0 k b hb
  rw[c1] at xb
  injection xb with xb
  subst xb
  exact rB _ c2) (λk b hb=>by
  obtain⟨kS,c1,_,c3⟩:=D0 k b hb
  simp only[aW] at c3
  exact⟨kS,c1,c3⟩) (λk hk=>by
  obtain⟨q1,q2⟩:=afz l k hk
  obtain⟨t,t1,t2,t3,_⟩:=Ab f3 k (fs.toList[k]'(by omega)) (aN (by omega))
  have hfs:fs.size=l.length:=by rw[←XZ,bQ]
  rw[aW,←rH,hfs] at t1 t3
  rw[q1] at t1
  injection t1 with t1
  subst t1
  obtain⟨_,_,_,c3⟩:=xg hT t2
  rw[q2] at t3
  simp only[qv,bO,aN (show k<fs.toList.length by omega),aP,c3,t3])
 have ax8:P.built i.T (ps.map λ(j,x)=>(j,a.eval x)).toList=some rX.flatten.toArray:=by
  unfold Program.built;have hz:z.cells=(l.map λb=>zc b.t).flatten.toArray:=by rw[←ahD,rH];have hag:isAgg i.ty=true:=(by rw[hpp];rfl);unfold a6 at k4;rw[ay hag] at k4;rw[k4];rfl
  rw[k1,f1];simp only[k3,mapM_some _ auU,hz];rw[ng];exact aqi
 have iu:=λw=>run_build (P:=P) w i.T _ _ ax8;rw[←e];have tR:∀ w2,(execOp a.eval o).run P w2=.ok (.value (.agg rX.flatten.toArray)) w2:=λw2=>by simp only[execOp,ho,aZ,iu w2,aV];rfl
 refine(LG (b:=pV l) (cs:=rX.flatten) (v:=.agg rX.flatten.toArray) h1 hk hn (λw2 _=>tR w2) ?_ hM).still tR;unfold a6;rw[ay (by rw[rH,hpp];rfl)]
end Go.Pv
