/- A verified evaluator of the program's form over pure values, part 2: what it tells of a function holds. -/
import Derived.Test.YtdacecahpdgooaaGreatDoorPv1
import Derived.Laws.BytesString
import Derived.Laws.Cells
import Derived.Laws.CopyRow
import Derived.Laws.Entries
import Derived.Laws.MakeOwn
import Derived.Laws.OwnMore
import Derived.Laws.Shifts
import Derived.Laws.Strings
import Derived.Laws.StructEq
import Derived.Laws.Tables
import Derived.Maps.AppendAt
namespace Go.Pv
set_option linter.unusedVariables false
set_option linter.unusedSimpArgs false
variable {P:Program} {w w':World} {A A':Nat→Prop} {H:Nat→Value} {tm o7:Nat→Value} {S S':St} {σ:Nat→Option Nat} {w0:World} {W0 Z:Nat→Prop} {a:Act} {own:Nat→Prop} {v:Value} {Θ:cK} {dst:Option Nat} {g:Bool}
def BR (P:Program) (w0:World) (W0 Z:Nat→Prop) (H:Nat→Value) (S':St) (a:Act) (dst:Option Nat) (w:World) (s:Sem Next):Prop:=
 ∃ w' v,(s.run P w=.ok (.value v) w'∨(v=undef∧s.run P w=.ok .skip w'))∧Rel w0 W0 Z H S' (a.put dst v) w'
def Ext (w w':World):Prop:=∀ g,g<w.heap.size→w'.heap[g]? =w.heap[g]?
theorem Ext.refl (w:World):Ext w w:=fun _ _=>rfl
theorem Ext.stays (h:Ext w w'):a6 w w' A A:=⟨fun g _ hg=>h g hg,fun _ _ h=>h⟩
def gR (P:Program) (w0:World) (W0 Z:Nat→Prop) (H:Nat→Value) (S':St) (a:Act) (dst:Option Nat) (w:World) (s:Sem Next):Prop:=
 ∃ v,(∀ w2,Ext w w2→s.run P w2=.ok (.value v) w2)∧Rel w0 W0 Z H S' (a.put dst v) w
theorem gR.goes {s:Sem Next} (h:gR P w0 W0 Z H S' a dst w s):BR P w0 W0 Z H S' a dst w s:=by
 obtain⟨v,h1,h2⟩:=h
 exact⟨w,v,.inl (h1 w (Ext.refl w)),h2⟩
theorem cn {s:Sem Next} {av:AV} (h:bd σ w0 W0 Z H S a w) (hr:∀ w2,Ext w w2→s.run P w2=.ok (.value v) w2) (hv:Holds w (Av σ Z) H (bM a) S (fun _=>False) av v):
  gR P w0 W0 Z H (S.put dst av) a dst w s:=⟨v,hr,_,h.pure hv⟩
def jR (P:Program) (w0:World) (W0 Z:Nat→Prop) (H:Nat→Value) (S':St) (a:Act) (dst:Option Nat) (w:World) (s:Sem Next):Prop:=
 ∃ v,(∀ w2,s.run P w2=.ok (.value v) w2)∧Rel w0 W0 Z H S' (a.put dst v) w
theorem jR.q {s:Sem Next} (h:jR P w0 W0 Z H S' a dst w s):gR P w0 W0 Z H S' a dst w s:=by
 obtain⟨v,h1,h2⟩:=h
 exact⟨v,fun w2 _=>h1 w2,h2⟩
theorem b8 {s:Sem Next} {av:AV} (h:bd σ w0 W0 Z H S a w) (hr:∀ w2,s.run P w2=.ok (.value v) w2) (hv:Holds w (Av σ Z) H (bM a) S (fun _=>False) av v):
  jR P w0 W0 Z H (S.put dst av) a dst w s:=⟨v,hr,_,h.pure hv⟩
def scalar:Ty→Bool
 | .int _=>true | .bool=>true | .str=>true |_=>false
theorem yJ {Dq:Nat→Prop} {tm1:Nat→Value} {S2:St} {r:TV} {v1 v2:Value} (hs:scalar r.t=true) (h1:Holds w A H tm S own (.v r []) v1) (h2:Holds w' A' H tm1 S2 Dq (.v r []) v2):v1=v2:=by
 obtain⟨rt,rm,rx⟩:=r
 obtain⟨cs,a1,a2⟩:=h1
 obtain⟨cL,b1,b2⟩:=h2
 cases rt<;>simp[scalar] at hs<;>simp only[M] at a2 b2
 ·rw[eJ a1 a2.2,eJ b1 b2.2]
 ·rw[cV a1 a2.2,cV b1 b2.2]
 ·rw[dI a1 a2.2,dI b1 b2.2]
theorem n9 (h:bd σ w0 W0 Z H S a w) {T:TypeId} {x:Operand} {a' av:AV} (ho:S.dn Θ T x=some a') (hc:S.copy x a'=some av):
  Holds w (Av σ Z) H (bM a) S (fun _=>False) av (a.eval x):=by
 have hh:=bC h ho
 cases a' with
 |v b ex=>
  simp only[St.copy] at hc
  cases hk:b.m.bQ with
  |true=>
   simp only[hk,cond_true,Option.some.injEq] at hc
   subst hc
   obtain⟨cs,h1,h2⟩:=hh
   obtain⟨bt,bm,bx⟩:=b
   refine⟨cs,h1, ?_⟩
   exact ng hk (eU _ hk h2)
  |false=>
   simp only[hk,cond_false] at hc
   cases x with
   |tmp i=>
    simp only[Option.some.injEq] at hc
    subst hc
    simp only[St.dn,Option.some.injEq] at ho
    obtain⟨cs,h1,h2⟩:=hh
    exact⟨b,cs,cs,⟨⟨ex,ho,fun q _ s r e=>by cases q<;>simp at e⟩,trivial,⟨b,rfl,rfl⟩,h1⟩,rfl,h1⟩
   |const c=>
    cases ex with
    |cons _ _=>simp at hc
    |nil=>
     simp only[Option.some.injEq] at hc
     subst hc
     obtain⟨cs,h1,h2⟩:=hh
     exact⟨cs,h1,aN (a6.refl _ _) _ (fun _ _ _=>rfl) (fun g hg _=>by obtain⟨i,hi,_⟩:=hg;cases hi) (fun _ h=>h) h2⟩
   |func f=>
    cases ex with
    |cons _ _=>simp at hc
    |nil=>simp[St.dn] at ho
   |global f=>
    cases ex with
    |cons _ _=>simp at hc
    |nil=>simp[St.dn] at ho
 |dead=>simp[St.copy] at hc
 |qZ l=>simp[St.copy] at hc
 |undef=>simp only[St.copy,Option.some.injEq] at hc;subst hc;exact hh
 |al t s p=>simp only[St.copy,Option.some.injEq] at hc;subst hc;exact hh
 |ad t s p=>simp only[St.copy,Option.some.injEq] at hc;subst hc;exact hh
 |cut t s p lo hi=>simp only[St.copy,Option.some.injEq] at hc;subst hc;exact hh
 |nc f c=>simp only[St.copy,Option.some.injEq] at hc;subst hc;exact hh
theorem WB (h:bd σ w0 W0 Z H S a w) {o:Oper} {x:Operand} (ho:o.op=.move x) (hnt:∀ l,S.dn Θ o.type x≠some (.qZ l)) (e:nQ Θ S o.dst o.type x=some (true,S')):jR P w0 W0 Z H S' a o.dst w (execOp a.eval o):=by
 unfold nQ at e
 split at e
 ·rename_i l hl
  exact absurd hl (hnt l)
 ·rename_i a' _ ha
  split at e
  ·rename_i av hv
   injection e with e
   injection e with _ e
   subst e
   exact b8 h (fun w2=>by simp only[execOp,ho];rfl) (n9 h ha hv)
  ·cases e
 ·cases e
theorem Qx {op:BinOp} {k k':IntKind} {x y:Int} {r:TV} (T:TypeId) (hk:k=k'∨op=.shl∨op=.shr) (e:Wk op k x y=some (true,r)):
  ∃ v,(binOp op T (.int k x) (.int k' y)).run P w=.ok v w∧Holds w A H tm S (fun _=>False) (.v r []) v:=by
 cases op<;>simp only[Wk,Option.some.injEq,Prod.mk.injEq,reduceCtorEq,true_and] at e
 case add=>
  obtain rfl:k=k':=by simpa using hk
  subst e;exact⟨_,by simp[binOp,Op.intArith],cS _ _⟩
 case sub=>
  obtain rfl:k=k':=by simpa using hk
  subst e;exact⟨_,by simp[binOp,Op.intArith],cS _ _⟩
 case mul=>
  obtain rfl:k=k':=by simpa using hk
  subst e;exact⟨_,by simp[binOp,Op.intArith],cS _ _⟩
 case quo=>
  obtain rfl:k=k':=by simpa using hk
  obtain⟨e0,rfl⟩:=e
  have h0: ¬y=0:=by simpa using e0
  exact⟨_,by simp[binOp,Op.intDiv,h0],cS _ _⟩
 case rem=>
  obtain rfl:k=k':=by simpa using hk
  obtain⟨e0,rfl⟩:=e
  have h0: ¬y=0:=by simpa using e0
  exact⟨_,by simp[binOp,Op.intDiv,h0],cS _ _⟩
 case and=>
  obtain rfl:k=k':=by simpa using hk
  subst e;exact⟨_,by simp[binOp,Op.intBits],cS _ _⟩
 case or=>
  obtain rfl:k=k':=by simpa using hk
  subst e;exact⟨_,by simp[binOp,Op.intBits],cS _ _⟩
 case xor=>
  obtain rfl:k=k':=by simpa using hk
  subst e;exact⟨_,by simp[binOp,Op.intBits],cS _ _⟩
 case eql=>
  obtain rfl:k=k':=by simpa using hk
  subst e;exact⟨_,by simp[binOp,Op.intCmp],cf _⟩
 case neq=>
  obtain rfl:k=k':=by simpa using hk
  subst e;exact⟨_,by simp[binOp,Op.intCmp],cf _⟩
 case lss=>
  obtain rfl:k=k':=by simpa using hk
  subst e;exact⟨_,by simp[binOp,Op.intCmp],cf _⟩
 case leq=>
  obtain rfl:k=k':=by simpa using hk
  subst e;exact⟨_,by simp[binOp,Op.intCmp],cf _⟩
 case gtr=>
  obtain rfl:k=k':=by simpa using hk
  subst e;exact⟨_,by simp[binOp,Op.intCmp],cf _⟩
 case geq=>
  obtain rfl:k=k':=by simpa using hk
  subst e;exact⟨_,by simp[binOp,Op.intCmp],cf _⟩
 case shl=>
  obtain⟨e0,rfl⟩:=e
  have h0: ¬y<0:=by
   have:0≤y:=by simpa using e0
   omega
  exact⟨_,by simp[binOp,Op.shift,h0],cS _ _⟩
 case shr=>
  obtain⟨e0,rfl⟩:=e
  have h0: ¬y<0:=by
   have:0≤y:=by simpa using e0
   omega
  exact⟨_,by simp[binOp,Op.shift,h0],cS _ _⟩
theorem Qy {op:BinOp} {x y:ByteArray} {r:TV} (T:TypeId) (e:Wl op x y=some (true,r)):
  ∃ v,(binOp op T (.string x) (.string y)).run P w=.ok v w∧Holds w A H tm S (fun _=>False) (.v r []) v:=by
 cases op<;>simp only[Wl,Option.some.injEq,Prod.mk.injEq,reduceCtorEq,true_and] at e
 case add=>
  obtain⟨e0,rfl⟩:=e
  have h0:x.size+y.size≤9223372036854775807:=by simpa using e0
  refine⟨_, ?_,Cu _⟩
  rw[binOp_string_add]
  simp only[Op.stringOp,IntKind.max_i64]
  rw[if_neg (by omega)]
  rfl
 case eql=>subst e;exact⟨_,by rw[binOp_string_eql];rfl,cf _⟩
 case neq=>subst e;exact⟨_,by rw[binOp_string_neq];rfl,cf _⟩
theorem Gw {op:UnOp} {b r:TV} {v:Value} {cs:List Value} (hm:an b.t v cs) (hK:K w (fun _=>False) b.t b.x cs) (e:Wm op b=some r):
  ∃ u,(Op.unary op v).run P w=.ok u w∧Holds w A H tm S (fun _=>False) (.v r []) u:=by
 unfold Wm at e
 split at e
 ·injection e with e;subst e
  obtain rfl:=cV hm hK
  exact⟨_,rfl,cf _⟩
 ·injection e with e;subst e
  obtain rfl:=eJ hm hK
  exact⟨_,rfl,cS _ _⟩
 ·injection e with e;subst e
  obtain rfl:=eJ hm hK
  exact⟨_,by simp[Op.unary,Op.intBits],cS _ _⟩
 ·cases e
theorem agu (h:bd σ w0 W0 Z H S a w) {o:Oper} {op:UnOp} {T:TypeId} {x:Operand} (ho:o.op=.unOp op T x) (e:aaP Θ S o.dst op x=some (true,S')):gR P w0 W0 Z H S' a o.dst w (execOp a.eval o):=by
 unfold aaP at e
 split at e
 ·rename_i b hb
  split at e
  ·rename_i r hr
   injection e with e;injection e with _ e;subst e
   obtain⟨cs,h1,h2,_⟩:=gE h hb
   obtain⟨u,h3,h4⟩:=Gw (P:=P) (A:=Av σ Z) (H:=H) (tm:=bM a) (S:=S) h1 h2 hr
   have hsc:scalar r.t=true:=by
    unfold Wm at hr
    split at hr<;>first |(injection hr with hr;subst hr;rfl) |cases hr
   refine cn h (fun w2 hw=> ?_) h4
   obtain⟨u2,k3,k4⟩:=Gw (w:=w2) (P:=P) (A:=Av σ Z) (H:=H) (tm:=bM a) (S:=S) h1 (bR hw.stays _ h2) hr
   rw[yJ hsc h4 k4]
   simp[execOp,ho,k3]
  ·cases e
 ·cases e
theorem yK (hT:cM P Θ=true) (h:bd σ w0 W0 Z H S a w) {o:Oper} {T T':TypeId} {x:Operand} (ho:o.op=.convert T T' x) (hk:(match Θ.find T' with
  |some i=>(match i.ty with
   | .int _=>true
   |_=>false)
  |none=>false)=true) (e:fS Θ S o.dst T T' x=some (true,S')):jR P w0 W0 Z H S' a o.dst w (execOp a.eval o):=by
 unfold fS at e
 split at e
 ·rename_i k m n i _ k' _ _ hb hi hj
  injection e with e;injection e with _ e;subst e
  obtain⟨cs,h1,h2,_⟩:=gE h hb
  have hv:=eJ h1 h2
  obtain⟨_,hu,rfl⟩:=cO hT hi
  obtain⟨_,rq,WC⟩:=cO hT hj
  obtain⟨d,hd⟩:=(tA hu).1
  have Mr:=tx rq rfl
  rw[WC] at Mr
  refine b8 h (v:=.int k' (k'.wrap n)) (fun w2=> ?_) (cS _ _)
  simp[execOp,ho,hv,convert,run_underlying hd,run_underlying Mr,Conv.intToInt]
 ·rename_i hj
  rw[hj] at hk
  cases hk
 ·cases e
theorem Gx (hT:cM P Θ=true) (h:bd σ w0 W0 Z H S a w) {o:Oper} {T T':TypeId} {x:Operand} (ho:o.op=.convert T T' x) (e:fS Θ S o.dst T T' x=some (true,S')):gR P w0 W0 Z H S' a o.dst w (execOp a.eval o):=by
 have e0:=e
 unfold fS at e
 split at e
 ·rename_i hj
  exact(yK hT h ho (by rw[hj]) e0).q
 ·rename_i m xs _ _ _ _ _ _ hb hi hj
  injection e with e;injection e with _ e;subst e
  obtain⟨cs,h1,h2,_⟩:=gE h hb
  obtain⟨X,c,hv,rfl,hc⟩:=lO h1 h2
  obtain⟨_,hu,PX⟩:=cO hT hi
  obtain⟨_,rq,WC⟩:=cO hT hj
  obtain⟨hd,he,_⟩:=jI hu rfl
  have Mr:=n6 rq rfl
  obtain⟨ie,hie,eQ⟩:=dz he
  obtain⟨_,hue,hTe⟩:=cO hT hie
  have hde:=tx hue eQ
  simp only at PX WC hd Mr
  rw[PX] at hd
  rw[WC] at Mr
  rw[hTe] at hde
  refine cn h (v:=.string (bytesOf xs)) (fun w2 hw=> ?_) ⟨[.string (bytesOf xs)],by simp[an,isAgg],by simp[M,K,Md.bQ]⟩
  have hK:=bR hw.stays _ h2
  simp only[execOp,ho,hv,Sem.run_bind]
  rw[run_convert_bytes_string w2 T T' _ X xs.length c hd hde Mr]
  simp only[K] at hK
  obtain⟨X',c',e1,_,hx⟩:=hK
  simp only[List.cons.injEq,Value.slice.injEq,and_true] at e1
  obtain⟨rfl,_,rfl⟩:=e1
  by_cases h0:0<xs.length
  ·obtain⟨g,off,cur,T2,fr,rfl,_,xw,hlen,BG⟩:=hx h0
   rw[run_bytesToString w2 ⟨g,off,none⟩ xs.length c xs ?_]
   ·simp[bytesOf,Sem.run_pure]
   ·have:=run_loadCells_list (P:=P) (w:=w2) ⟨g,off,none⟩ (xs.map (Value.int .u8)) (fun j v hj=> ?_)
    ·rwa [List.length_map] at this
    ·rw[List.getElem?_map] at hj
     cases nO:xs[j]? with
     |none=>rw[nO] at hj;cases hj
     |some n=>
      rw[nO] at hj
      simp only[Option.map_some,Option.some.injEq] at hj
      subst hj
      have pg:=(List.getElem?_eq_some_iff.1 nO).1
      have h3:=BG j pg
      have hn:xs[j]=n:=(List.getElem?_eq_some_iff.1 nO).2
      simp only[K,Ty.size,Nat.mul_one] at h3
      rw[hn] at h3
      have h4:(cur.toList.drop (off+j)).head? =some (.int .u8 n):=by
       cases hd:cur.toList.drop (off+j) with
       |nil=>rw[hd] at h3;simp at h3
       |cons y r=>rw[hd] at h3;simp at h3;simp[h3]
      rw[List.head?_drop] at h4
      rw[Addr.add_lit]
      simp only[World.cell?,xw]
      rw[←Array.getElem?_toList,h4]
      rfl
  ·have:xs=[]:=List.eq_nil_of_length_eq_zero (by omega)
   subst this
   cases X with
   |none=>simp[Conv.bytesToString,bytesOf,Sem.run_pure]
   |some A=>
    show((Conv.bytesToString (Value.slice (some A) 0 c)).run P w2).andThen _=_
    rw[run_bytesToString w2 A 0 c [] (by simpa using run_loadCells_list (P:=P) (w:=w2) A [] (fun j v hj=>by simp at hj))]
    simp[bytesOf,Sem.run_pure]
 ·cases e
theorem O8 (x y:ByteArray):(x==y)=(x.toList==y.toList):=beq_toListBytes x y
theorem Cv {t:Ty} (h:isAgg t=false):t.size=1:=by cases t<;>simp[isAgg] at h<;>rfl
theorem nq (hT:cM P Θ=true) {T:TypeId} {t:Ty} (ht:Θ.is T t=true) {cs:List Value} {off:Nat} (hlen:off+t.size≤cs.length):
  ∃ u,(part T cs.toArray off).run P w=.ok u w∧an t u ((cs.drop off).take t.size):=by
 have Kc:=Kq hT ht w
 obtain⟨inf,s1,s2,_⟩:=gD hT ht
 have hso:(sizeOf T).run P w=.ok t.size w:=by simp[sizeOf,typeInfo,s1,s2]
 cases Qz:isAgg t with
 |true=>
  refine⟨.agg (cs.toArray.extract off (off+t.size)), ?_, ?_⟩
  ·rw[Qz] at Kc
   unfold part
   simp only[Sem.run_bind,Kc,Result.andThen_ok,if_true,hso]
   rfl
  ·unfold an
   rw[if_pos Qz]
   congr 1
   apply Array.toList_inj.1
   rw[Array.toList_extract,List.toList_toArray,List.toList_toArray,List.extract_eq_drop_take']
   rw[List.drop_take,Nat.add_sub_cancel_left]
 |false=>
  have h1:=Cv Qz
  have Kr:off<cs.length:=by omega
  refine⟨cs[off], ?_, ?_⟩
  ·rw[Qz] at Kc
   unfold part
   simp only[Sem.run_bind,Kc,Result.andThen_ok,if_neg Bool.false_ne_true]
   rw[List.getElem?_toArray,List.getElem?_eq_getElem Kr]
   rfl
  ·unfold an
   rw[if_neg (by rw[Qz];exact Bool.false_ne_true),h1,List.drop_eq_getElem_cons Kr,List.take_succ_cons,List.take_zero]
theorem Gy:∀ (p q:Path) (t:Ty),fB (p++q) t=(fB p t).bind (fB q):=by
 intro p
 induction p with
 |nil=>intro q t;rfl
 |cons s p ih=>intro q t;cases s<;>cases t<;>first |rfl |exact ih q _
theorem yL:∀ (p q:Path) (t u:Ty),fB p t=some u→aE (p++q) t=aE p t+aE q u:=by
 intro p
 induction p with
 |nil=>intro q t u h;simp only[fB,Option.some.injEq] at h;subst h;simp[aE]
 |cons s p ih=>
  intro q t u h
  cases s<;>cases t<;>simp only[fB,reduceCtorEq] at h
  ·simp only[List.cons_append,aE];exact ih q _ u h
  ·simp only[List.cons_append,aE];rw[ih q _ u h];omega
theorem aaW {k n:Nat} (h2:2≤n):mm k n=if k+1=n then List.replicate k .snd else List.replicate k .snd++[.fst]:=by
 unfold mm
 have h1:Nat.beq n 1=false:=by
  cases hb:Nat.beq n 1 with
  |false=>rfl
  |true=>have:=Nat.eq_of_beq_eq_true hb;omega
 by_cases WD:k+1=n
 ·rw[if_pos WD,WD,Nat.beq_refl,h1];rfl
 ·have:Nat.beq (k+1) n=false:=by
   cases hb:Nat.beq (k+1) n with
   |false=>rfl
   |true=>exact absurd (Nat.eq_of_beq_eq_true hb) WD
  rw[if_neg WD,this];rfl
theorem qJ {t:Ty} {v:Value} {cs:List Value} (ha:isAgg t=true) (h:an t v cs):v=.agg cs.toArray:=by simpa[an,ha] using h
theorem tB (hT:cM P Θ=true):∀ (d:Nat) (t:Ty) {T:TypeId} {x y:t.I} {r:Bool} {cs cL:List Value} {u v:Value},Θ.is T t=true→F9 t x y=some r→an t u cs→an t v cL→K w (fun _=>False) t x cs→K w (fun _=>False) t y cL→t.ht<d→
  (Op.equalIn d T u v).run P w=.ok r w
 |0,_,_,_,_,_,_,_,_,_,_,_,_,_,_,_,hd=>absurd hd (Nat.not_lt_zero _)
 |d+1,t,T,x,y,r,cs,cL,u,v,hT1,he,hu,hv,hx,hy,hd=>by
  obtain⟨i,hi,eQ⟩:=dz hT1
  obtain⟨_,BS,h3⟩:=cO hT hi
  cases t with
  |int k=>
   have rq:=tx BS eQ
   rw[h3] at rq
   simp only[F9,Option.some.injEq] at he
   subst he
   obtain rfl:=eJ hu hx
   obtain rfl:=eJ hv hy
   rw[run_equalIn_int w d T k k _ _ rq]
   congr 1
  |bool=>
   have rq:=tz BS eQ
   rw[h3] at rq
   simp only[F9,Option.some.injEq] at he
   subst he
   obtain rfl:=cV hu hx
   obtain rfl:=cV hv hy
   exact run_equalIn_bool' w d T _ _ rq
  |str=>
   have rq:=n6 BS eQ
   rw[h3] at rq
   simp only[F9,Option.some.injEq] at he
   subst he
   obtain rfl:=dI hu hx
   obtain rfl:=dI hv hy
   rw[run_equalIn_string w d T _ _ rq,O8]
  |unit=>exact absurd eQ (tA BS).2.2.2
  |sl t=>simp[F9] at he
  |ptr t=>simp[F9] at he
  |arr n t=>simp[F9] at he
  |pair pa pb=>
   obtain⟨fs,O9,hft,iN,hg,hsh,hnb⟩:=lN BS eQ
   rw[h3] at O9 hsh
   obtain rfl:=qJ rfl hu
   obtain rfl:=qJ rfl hv
   have hfo:P.fieldsOf T=fs:=by unfold Program.fieldsOf;rw[O9]
   rw[run_equalIn_struct w d T _ _ (by rw[hfo];exact O9) hsh,hfo]
   have hlx:=(jF _ hx).1
   have hly:=(jF _ hy).1
   rw[eQ] at iN
   have Cw:fs.toList.length=i.fs.length:=by rw[←hft,List.length_map]
   have hU:=Yd hT hi
   unfold uOK at hU
   rw[Bool.and_eq_true,eQ] at hU
   have hU:=hU.2
   rcases Nat.lt_or_ge fs.size 2 with h2 |h2
   ·match Ye:i.fs,hfe:fs.toList with
    |[],_=>rw[Ye] at hU;simp at hU
    |[T1],[f]=>
     rw[Ye] at hU
     cases pb<;>simp at hU
     rw[hfe] at iN
     have Wd:fs.size=1:=by rw[←Array.length_toList,hfe];rfl
     simp only[jq,Wd,Bool.and_true] at iN
     have e1:mm 0 1=[.fst]:=rfl
     rw[e1] at iN
     simp only[fB,aE,Bool.and_eq_true] at iN
     obtain⟨⟨k1,k2⟩,k3⟩:=iN
     have k2:=Nat.eq_of_beq_eq_true k2
     simp only[Ty.size,Nat.add_zero] at hlx hly
     obtain⟨u1,p1,p2⟩:=nq (w:=w) hT k1 (cs:=cs) (off:=0) (by omega)
     obtain⟨v1,q1,q2⟩:=nq (w:=w) hT k1 (cs:=cL) (off:=0) (by omega)
     rw[List.drop_zero,List.take_of_length_le (by omega)] at p2 q2
     simp only[F9] at he
     split at he
     case h_2=>cases he
     rename_i p q hp hq
     injection hq with hq
     subst hq
     injection he with he
     subst he
     simp only[K] at hx hy
     obtain⟨c0,c1,rfl,hx0,hx1⟩:=hx
     obtain⟨c0',c1',rfl,hy0,hy1⟩:=hy
     subst hx1 hy1
     rw[List.append_nil] at p2 q2 p1 q1
     simp only[Ty.ht] at hd
     have hr:=tB hT d _ k1 hp p2 q2 hx0 hy0 (by omega)
     have We:=hnb f (by rw[←Array.mem_toList_iff,hfe];exact List.mem_singleton.2 rfl)
     simp only[Op.eqFields,We,ne_eq,not_false_eq_true,if_true,Sem.run_bind,k2,List.append_nil,p1,q1,Result.andThen_ok,hr]
     cases p<;>simp
    |[T1],[]=>rw[Ye,hfe] at Cw;simp at Cw
    |[T1],_::_::_=>rw[Ye,hfe] at Cw;simp at Cw
    |_::_::_,_=>rw[Ye] at Cw;simp only[Array.length_toList,List.length_cons] at Cw;omega
   ·have key : ∀ (l : List Field) (k : Nat) (s : Ty) (x' y' : s.I) (c c' : List Value) (r : Bool), k + l.length = fs.size → l ≠ [] → (∀ f ∈ l, f.name ≠ "_") → jq Θ (.pair pa pb) fs.size l k = true → fB (List.replicate k .snd) (.pair pa pb) = some s →
      cs.drop (aE (List.replicate k .snd) (.pair pa pb))=c→cL.drop (aE (List.replicate k .snd) (.pair pa pb))=c'→aE (List.replicate k .snd) (.pair pa pb)+s.size≤(Ty.pair pa pb).size→K w (fun _=>False) s x' c→K w (fun _=>False) s y' c'→(s.ht<d∨(1<l.length∧s.ht<d+1))→F9 s x' y'=some r→(Op.eqFields d cs.toArray cL.toArray l).run P w=.ok r w:=by
     intro l
     induction l with
     |nil=>intro k s x' y' c c' r _ h;exact absurd rfl h
     |cons f l ih=>
      intro k s x' y' c c' r hk _ We iN hs hc ON iD hx hy hd he
      have hnf:=We f (List.mem_cons_self ..)
      simp only[jq,Bool.and_eq_true] at iN
      obtain⟨iN,Gz⟩:=iN
      rw[aaW h2] at iN
      cases l with
      |nil=>
       rw[if_pos (by simpa using hk),hs] at iN
       simp only[Bool.and_eq_true] at iN
       obtain⟨⟨k1,k2⟩,k3⟩:=iN
       have k2:=Nat.eq_of_beq_eq_true k2
       obtain⟨u1,p1,p2⟩:=nq (w:=w) hT k1 (cs:=cs) (off:=f.offset) (by omega)
       obtain⟨v1,q1,q2⟩:=nq (w:=w) hT k1 (cs:=cL) (off:=f.offset) (by omega)
       have l1:=(jF _ hx).1
       have l2:=(jF _ hy).1
       rw[k2,hc,List.take_of_length_le (by omega)] at p2
       rw[k2,ON,List.take_of_length_le (by omega)] at q2
       have hr:=tB hT d _ k1 he p2 q2 hx hy (by rcases hd with hd |hd;exact hd;simp at hd)
       simp only[Op.eqFields,hnf,ne_eq,not_false_eq_true,if_true,Sem.run_bind,p1,q1,Result.andThen_ok,hr]
       cases r<;>simp
      |cons f' l=>
       rw[if_neg (by simp only[List.length_cons] at hk;omega),Gy,hs,Option.bind_some] at iN
       cases s with
       |pair sa sb=>
        simp only[fB,Bool.and_eq_true] at iN
        obtain⟨⟨k1,k2⟩,k3⟩:=iN
        have k2:=Nat.eq_of_beq_eq_true k2
        rw[yL _ _ _ _ hs] at k2
        simp only[aE,Nat.add_zero] at k2
        simp only[F9] at he
        split at he
        case h_2=>cases he
        rename_i p q hp hq
        injection he with he
        subst he
        simp only[K] at hx hy
        obtain⟨c0,c1,hcc,hx0,hx1⟩:=hx
        obtain⟨c0',c1',agv,hy0,hy1⟩:=hy
        have l0:=(jF _ hx0).1
        have l0':=(jF _ hy0).1
        simp only[Ty.size] at iD hlx hly
        obtain⟨u1,p1,p2⟩:=nq (w:=w) hT k1 (cs:=cs) (off:=f.offset) (by omega)
        obtain⟨v1,q1,q2⟩:=nq (w:=w) hT k1 (cs:=cL) (off:=f.offset) (by omega)
        rw[k2,hc,hcc, ←l0,List.take_left] at p2
        rw[k2,ON,agv, ←l0',List.take_left] at q2
        have hdd:max sa.ht sb.ht+1<d+1:=by
         simp only[Ty.ht] at hd
         omega
        have hr:=tB hT d _ k1 hp p2 q2 hx0 hy0 (by omega)
        have agw:List.replicate (k+1) Step.snd=List.replicate k .snd++[.snd]:=List.replicate_succ'
        have aaX:aE (List.replicate (k+1) .snd) (.pair pa pb)=aE (List.replicate k .snd) (.pair pa pb)+sa.size:=by
         rw[agw,yL _ _ _ _ hs];simp[aE]
        have hi:=ih (k+1) sb x'.2 y'.2 c1 c1' q (by simp only[List.length_cons] at hk ⊢;omega) (by simp) (fun f hf=>We f (List.mem_cons_of_mem _ hf)) Gz (by rw[agw,Gy,hs];rfl)
         (by rw[aaX, ←List.drop_drop,hc,hcc, ←l0,List.drop_left]) (by rw[aaX, ←List.drop_drop,ON,agv, ←l0',List.drop_left]) (by rw[aaX];simp only[Ty.size];omega) hx1 hy1 (.inl (by omega)) hq
        simp only[Op.eqFields,hnf,ne_eq,not_false_eq_true,if_true,Sem.run_bind,p1,q1,Result.andThen_ok,hr]
        cases p with
        |false=>simp
        |true=>simpa[Op.eqFields] using hi
       |_=>simp[fB] at iN
    exact key fs.toList 0 _ x y cs cL r (by simp) (fun e=>by rw[←Array.length_toList,e] at h2;simp at h2) (fun f hf=>hnb f (by simpa using hf)) iN rfl rfl rfl (by simp[aE]) hx hy (.inr ⟨by rw[Array.length_toList];omega,hd⟩) he
theorem Ms (hT:cM P Θ=true) {op:BinOp} {T:TypeId} {x y:Operand} {p q r:TV} {u v:Value} {cs cL:List Value} (hp:an p.t u cs) (hq:an q.t v cL) (kp:K w (fun _=>False) p.t p.x cs) (kq:K w (fun _=>False) q.t q.x cL)
  (hi:p.t=.bool∨isAgg p.t=true→Θ.is T p.t=true) (e:fZ op p q=some (true,r)):
  ∃ z,((do eqGuard op T x y u v;binOp op T u v):Sem Value).run P w=.ok z w∧Holds w A H tm S (fun _=>False) (.v r []) z:=by
 unfold fZ at e
 split at e
 ·rename_i k _ x0 k' _ y0
  split at e
  ·rename_i hk
   obtain rfl:=eJ hp kp
   obtain rfl:=eJ hq kq
   obtain⟨z,h1,h2⟩:=Qx (P:=P) (w:=w) (A:=A) (H:=H) (tm:=tm) (S:=S) T hk e
   exact⟨z,by rw[eqGuard_at_int];simpa using h1,h2⟩
  ·cases e
 ·obtain rfl:=dI hp kp
  obtain rfl:=dI hq kq
  obtain⟨z,h1,h2⟩:=Qy (P:=P) (w:=w) (A:=A) (H:=H) (tm:=tm) (S:=S) T e
  exact⟨z,by rw[eqGuard_at_string];simpa using h1,h2⟩
 ·obtain rfl:=cV hp kp
  obtain rfl:=cV hq kq
  obtain⟨i,h1,h2⟩:=dz (hi (.inl rfl))
  obtain⟨_,hu,h3⟩:=cO hT h1
  have rq:=tz hu h2
  rw[h3] at rq
  split at e
  ·injection e with e;injection e with _ e;subst e
   refine⟨_, ?_,cf _⟩
   rw[eqGuard_at_bool]
   simp[binOp,Op.equal,Op.maxDepth,run_equalIn_bool' w 9999 T _ _ rq]
  ·injection e with e;injection e with _ e;subst e
   refine⟨_, ?_,cf _⟩
   rw[eqGuard_at_bool]
   simp[binOp,Op.equal,Op.maxDepth,run_equalIn_bool' w 9999 T _ _ rq]
  ·cases e
 ·rename_i t t' _ x0 t2 _ y0
  split at e
  ·rename_i ht
   subst ht
   have hTT:=hi (.inr rfl)
   obtain⟨i,h1,h2⟩:=dz hTT
   obtain⟨jc,hu,h3⟩:=cO hT h1
   obtain⟨fs,O9,_,_,hg,_,_⟩:=lN hu h2
   rw[h3] at hg
   have eu:=qJ rfl hp
   have ev:=qJ rfl hq
   have iD:(Ty.pair t t').ht<10000:=Nat.lt_of_le_of_lt (show(Ty.pair t t').ht≤9000 from by
    have hs:=Yd hT h1
    unfold uOK at hs
    rw[Bool.and_eq_true,h2] at hs
    exact Nat.le_of_ble_eq_true hs.1) (by decide)
   split at e
   ·rename_i r0 h0
    injection e with e;injection e with _ e;subst e
    have hr:=tB (P:=P) hT 10000 (.pair t t') hTT h0 hp hq kp kq iD
    rw[eu,ev] at hr ⊢
    refine⟨_, ?_,cf _⟩
    simp only[Sem.run_bind,run_eqGuard_agg (P:=P) w _ T x y _ _ hg,Result.andThen_ok,run_eql_struct,hr]
   ·rename_i r0 h0
    injection e with e;injection e with _ e;subst e
    have hr:=tB (P:=P) hT 10000 (.pair t t') hTT h0 hp hq kp kq iD
    rw[eu,ev] at hr ⊢
    refine⟨_, ?_,cf _⟩
    simp only[Sem.run_bind,run_eqGuard_agg (P:=P) w _ T x y _ _ hg,Result.andThen_ok,run_neq_struct,hr]
   ·cases e
  ·cases e
 ·cases e
theorem DC {op:BinOp} {p q r:TV} {g:Bool} (e:fZ op p q=some (g,r)):scalar r.t=true:=by
 unfold fZ at e
 split at e
 ·split at e
  ·unfold Wk at e
   split at e<;>first |(injection e with e;injection e with _ e;subst e;rfl) |cases e
  ·cases e
 ·unfold Wl at e
  split at e<;>first |(injection e with e;injection e with _ e;subst e;rfl) |cases e
 ·split at e<;>first |(injection e with e;injection e with _ e;subst e;rfl) |cases e
 ·split at e
  ·split at e<;>first |(injection e with e;injection e with _ e;subst e;rfl) |cases e
  ·cases e
 ·cases e
theorem nr:∀ (t:Ty) {x y:t.I} {r:Bool},F9 t x y=some r→∀ {z:t.I} {cs:List Value},K w A t z cs→K w' A t z cs
 | .int _,_,_,_,_,_,_,h=>h
 | .bool,_,_,_,_,_,_,h=>h
 | .str,_,_,_,_,_,_,h=>h
 | .unit,_,_,_,_,_,_,h=>h
 | .pair a b,x,y,r,e,z,cs,h=>by
  simp only[F9] at e
  split at e
  ·rename_i p q hp hq
   obtain⟨c0,c1,h0,h1,h2⟩:=h
   exact⟨c0,c1,h0,nr a hp h1,nr b hq h2⟩
  ·cases e
 | .sl _,_,_,_,e,_,_,_=>by simp[F9] at e
 | .ptr _,_,_,_,e,_,_,_=>by simp[F9] at e
 | .arr _ _,_,_,_,e,_,_,_=>by simp[F9] at e
theorem Kt {op:BinOp} {p q:TV} {gr:Bool×TV} (e:fZ op p q=some gr) {cs:List Value} (h:K w A p.t p.x cs):K w' A p.t p.x cs:=by
 obtain⟨t,m,x⟩:=p
 obtain⟨t',m',y⟩:=q
 cases t with
 |int k=>exact h
 |bool=>exact h
 |str=>exact h
 |unit=>exact h
 |pair a b=>
  simp only[fZ] at e
  split at e
  case isFalse=>cases e
  rename_i ht
  subst ht
  split at e
  ·rename_i hr;exact nr _ hr h
  ·rename_i hr;exact nr _ hr h
  ·cases e
 |_=>simp[fZ] at e
theorem GA {op:BinOp} {p q:TV} {gr:Bool×TV} (e:fZ op p q=some gr) {cs:List Value} (h:K w A q.t q.x cs):K w' A q.t q.x cs:=by
 obtain⟨t,m,x⟩:=p
 obtain⟨t',m',y⟩:=q
 cases t with
 |pair a b=>
  simp only[fZ] at e
  split at e
  case isFalse=>cases e
  rename_i ht
  subst ht
  split at e
  ·rename_i hr;exact nr _ hr h
  ·rename_i hr;exact nr _ hr h
  ·cases e
 |int k=>cases t'<;>first |exact h |(simp[fZ] at e;done)
 |bool=>cases t'<;>first |exact h |(simp[fZ] at e;done)
 |str=>cases t'<;>first |exact h |(simp[fZ] at e;done)
 |_=>simp[fZ] at e
theorem QA (hT:cM P Θ=true) (h:bd σ w0 W0 Z H S a w) {o:Oper} {op:BinOp} {T T':TypeId} {x y:Operand} (ho:o.op=.binOp op T x y T') (e:yg Θ S o.dst op T x y=some (true,S')):jR P w0 W0 Z H S' a o.dst w (execOp a.eval o):=by
 unfold yg at e
 split at e
 ·rename_i p q hp hq
  obtain⟨cs,h1,h2,_⟩:=gE h hp
  obtain⟨cL,PY,h2',_⟩:=gE h hq
  have fin:∀ (r:TV),(p.t=.bool∨isAgg p.t=true→Θ.is T p.t=true)→fZ op p q=some (true,r)→jR P w0 W0 Z H (S.put o.dst (.v r [])) a o.dst w (execOp a.eval o):=by
   intro r hi hb
   obtain⟨z,h3,h4⟩:=Ms (P:=P) (A:=Av σ Z) (H:=H) (tm:=bM a) (S:=S) (x:=x) (y:=y) hT h1 PY h2 h2' hi hb
   have hsc:scalar r.t=true:=DC hb
   refine b8 h (v:=z) (fun w2=> ?_) h4
   obtain⟨z2,k3,k4⟩:=Ms (w:=w2) (P:=P) (A:=Av σ Z) (H:=H) (tm:=bM a) (S:=S) (x:=x) (y:=y) hT h1 PY (Kt hb h2) (GA hb h2') hi hb
   rw[yJ hsc h4 k4]
   simp only[execOp,ho]
   simp only[Sem.run_bind] at k3 ⊢
   rw[k3]
   rfl
  split at e
  ·rename_i ht
   cases hc:Θ.is T .bool with
   |false=>rw[hc] at e;cases e
   |true=>
    rw[hc] at e
    simp only[cond_true] at e
    split at e
    ·rename_i g r hb
     injection e with e;injection e with e1 e;subst e e1
     exact fin r (fun _=>by rw[ht];exact hc) hb
    ·cases e
  ·rename_i t t' ht
   cases hc:Θ.is T p.t with
   |false=>rw[hc] at e;cases e
   |true=>
    rw[hc] at e
    simp only[cond_true] at e
    split at e
    ·rename_i g r hb
     injection e with e;injection e with e1 e;subst e e1
     exact fin r (fun _=>hc) hb
    ·cases e
  ·rename_i n1 n2
   split at e
   ·rename_i g r hb
    injection e with e;injection e with e1 e;subst e e1
    refine fin r (fun hh=> ?_) hb
    rcases hh with hh |hh
    ·exact absurd hh n1
    ·obtain⟨pt,pm,px⟩:=p
     simp only at hh n1 n2
     cases pt<;>simp[isAgg] at hh
     ·exact absurd rfl (n2 _ _)
     ·simp[fZ] at hb
     ·simp[fZ] at hb
   ·cases e
 ·cases e
end Go.Pv
namespace Go.Pv
set_option linter.unusedVariables false
set_option linter.unusedSimpArgs false
variable {P:Program} {w w':World} {A A':Nat→Prop} {H:Nat→Value} {tm o7:Nat→Value} {S S':St} {σ:Nat→Option Nat} {w0:World} {W0 Z:Nat→Prop} {a:Act} {own:Nat→Prop} {v:Value} {Θ:cK} {dst:Option Nat} {g:Bool}
theorem pI {n:Int} {len:Nat} (h:bw n len=true):0≤n∧n<(len:Int):=by
 simpa[bw] using h
theorem QB (hT:cM P Θ=true) (h:bd σ w0 W0 Z H S a w) {o:Oper} {T:TypeId} {x ix:Operand} (ho:o.op=.index T x ix) (e:Dl Θ S o.dst T x ix=some (true,S')):gR P w0 W0 Z H S' a o.dst w (execOp a.eval o):=by
 unfold Dl at e
 split at e
 ·rename_i m s n hb hn
  cases hc:Θ.is T .str with
  |false=>rw[hc] at e;cases e
  |true=>
   rw[hc] at e
   simp only[cond_true,Option.some.injEq,Prod.mk.injEq] at e
   obtain⟨e1,e⟩:=e
   subst e
   obtain⟨b1,b2⟩:=pI e1
   obtain⟨cs,h1,h2,_⟩:=gE h hb
   have hv:=dI h1 h2
   obtain⟨k,hk⟩:=gK h hn
   obtain⟨i,hi,eQ⟩:=dz hc
   obtain⟨_,hu,uJ⟩:=cO hT hi
   have rq:=n6 hu eQ
   rw[uJ] at rq
   refine cn h (v:=.int .u8 (bt s n)) (fun w2 _=> ?_) (cS _ _)
   have cI:n.toNat<s.size:=by omega
   have eY:s[n.toNat]? =some s[n.toNat]:=ByteArray.getElem?_lt' s _ cI
   have s7:bt s n=(s[n.toNat].toNat:Int):=by unfold bt;rw[dif_pos cI]
   simp[execOp,ho,hv,hk,Instr.index,asIntOf,run_underlying rq,b1,eY,s7]
 ·cases e
theorem dx {s:Nat} {p:Path} {b:TV} (h:S.ca s p=some b):∃ r ex,S.at s=.v r ex∧(∀ q∈ex,under q p=false)∧a8 p r.t r.m r.x=some b:=by
 unfold St.ca at h
 split at h
 ·rename_i r ex he
  cases hc:ex.all fun q=> !under q p with
  |true=>
   rw[hc] at h
   exact⟨r,ex,he,fun q hq=>by simpa using List.all_eq_true.1 hc q hq,h⟩
  |false=>rw[hc] at h;cases h
 ·cases h
theorem kB:∀ (q:Path) (s:Step) (r:Path),under q (q++s::r)=true
 |[],_,_=>by simp[under]
 | .idx i::q,s,r=>by simp[under];exact kB q s r
 | .deref::q,s,r=>by simp[under];exact kB q s r
 | .fst::q,s,r=>by simp[under];exact kB q s r
 | .snd::q,s,r=>by simp[under];exact kB q s r
theorem dq {p:Path} {ex:List Path} (h:∀ q∈ex,under q p=false):open_ p ex:=fun q hq s r e=>by
 have:=h q hq
 rw[e,kB] at this
 cases this
theorem oa {s:Nat} {p:Path} {b:TV} (h:S.place s p=some b):∃ r ex,S.at s=.v r ex∧(∀ q∈ex,c7 q p=false)∧a8 p r.t r.m r.x=some b:=by
 unfold St.place at h
 split at h
 ·rename_i r ex he
  cases hc:ex.all fun q=> !c7 q p with
  |true=>
   rw[hc] at h
   exact⟨r,ex,he,fun q hq=>by simpa using List.all_eq_true.1 hc q hq,h⟩
  |false=>rw[hc] at h;cases h
 ·cases h
theorem QC (hT:cM P Θ=true) (h:bd σ w0 W0 Z H S a w) {o:Oper} {as:Array Operand} {ts:Array TypeId} (ho:o.op=.call { callee:=.builtin .len,args:=as,argTypes:=ts }) (e:P8 Θ S o.dst ts.toList as.toList=some (true,S')):jR P w0 W0 Z H S' a o.dst w (execOp a.eval o):=by
 obtain⟨as⟩:=as
 obtain⟨ts⟩:=ts
 simp only at e
 unfold P8 at e
 split at e
 ·rename_i x T
  split at e
  ·rename_i b hb
   cases hc:Θ.is T b.t with
   |false=>rw[hc] at e;cases e
   |true=>
    rw[hc] at e
    simp only[cond_true] at e
    split at e
    ·rename_i n hn
     injection e with e;injection e with _ e;subst e
     have gY:(∃ xs:ByteArray,b.t=.str∧a.eval x=.string xs∧n=(xs.size:Int))∨∃ t X c,∃ m:Nat,b.t=.sl t∧a.eval x=.slice X m c∧n=(m:Int):=by
      obtain⟨bt,bm,bx⟩:=b
      unfold X0 at hn
      split at hn
      ·rename_i t m xs heq
       cases heq
       injection hn with hn
       right
       split at hb
       ·rename_i b' ex dh
        cases hx:ex.any List.isEmpty with
        |true=>rw[hx] at hb;cases hb
        |false=>
         rw[hx] at hb
         simp only[cond_false,Option.some.injEq] at hb
         subst hb
         obtain⟨cs,h1,h2⟩:=bC h dh
         simp only[M] at h2
         rcases h2 with⟨mo,_⟩ |⟨_,h2⟩ |⟨T',tag,me,X,c,_,rfl,_⟩
         ·have:ex.any List.isEmpty=true:=List.any_eq_true.2 ⟨[],mo,rfl⟩
          rw[hx] at this;cases this
         ·obtain⟨X,c,hv,_⟩:=lO h1 h2
          exact⟨_,X,c,_,rfl,hv,hn.symm⟩
         ·exact⟨_,X,c,_,rfl,by simpa[an,isAgg] using h1.symm,hn.symm⟩
       ·rename_i t0 s0 p0 dh
        split at hb
        ·rename_i b' JP
         injection hb with hb
         subst hb
         obtain⟨cs,h1,h2,_⟩:=pH (av:=.al t0 s0 p0) h (bC h dh) (by simpa[St.qF] using JP)
         obtain⟨X,c,hv,_⟩:=lO h1 h2
         exact⟨_,X,c,_,rfl,hv,hn.symm⟩
        ·split at hb
         ·rename_i t1 m1 xs1 yy
          injection hb with hb
          cases hb
          obtain⟨r,bY,cs,hr,l9,hm⟩:=bC h dh
          obtain⟨ex,b2,cL,ow0,j1,j2,j3,j4,hM,j5,j6,j7⟩:=fm h hr
          rw[l9] at j5
          injection j5 with j5
          subst j5
          obtain⟨r2,QD,q1,q2,q3⟩:=dx yy
          rw[j1] at q1
          injection q1 with q1 yM
          subst q1 yM
          rw[j3] at q3
          injection q3 with q3
          subst q3
          simp only at j4
          subst j4
          simp only[M] at j7
          rcases j7 with⟨_,_,X,c,rfl⟩ |⟨_,h2⟩ |⟨T',tag,me,X,c,_,rfl,_⟩
          ·exact⟨_,X,c,_,rfl,by simpa[an,isAgg] using hm.symm,hn.symm⟩
          ·obtain⟨X,c,hv,_⟩:=lO hm h2
           exact⟨_,X,c,_,rfl,hv,hn.symm⟩
          ·exact⟨_,X,c,_,rfl,by simpa[an,isAgg] using hm.symm,hn.symm⟩
         ·cases hb
       ·rename_i a' _ _ dh
        obtain⟨cs,h1,h2,_⟩:=pH h (bC h dh) hb
        obtain⟨X,c,hv,_⟩:=lO h1 h2
        exact⟨_,X,c,_,rfl,hv,hn.symm⟩
       ·cases hb
      ·rename_i m xs heq
       cases heq
       injection hn with hn
       left
       split at hb
       ·rename_i b' ex dh
        cases hx:ex.any List.isEmpty with
        |true=>rw[hx] at hb;cases hb
        |false=>
         rw[hx] at hb
         simp only[cond_false,Option.some.injEq] at hb
         subst hb
         obtain⟨cs,h1,h2⟩:=bC h dh
         simp only[M] at h2
         exact⟨_,rfl,dI h1 h2.2,hn.symm⟩
       ·rename_i t0 s0 p0 dh
        split at hb
        ·rename_i b' JP
         injection hb with hb
         subst hb
         obtain⟨cs,h1,h2,_⟩:=pH (av:=.al t0 s0 p0) h (bC h dh) (by simpa[St.qF] using JP)
         exact⟨_,rfl,dI h1 h2,hn.symm⟩
        ·split at hb
         ·injection hb with hb;cases hb
         ·cases hb
       ·rename_i a' _ _ dh
        obtain⟨cs,h1,h2,_⟩:=pH h (bC h dh) hb
        exact⟨_,rfl,dI h1 h2,hn.symm⟩
       ·cases hb
      ·cases hn
     obtain⟨i,hi,eQ⟩:=dz hc
     obtain⟨_,hu,uJ⟩:=cO hT hi
     rcases gY with⟨xs,ht,hv,rfl⟩ |⟨t,X,c,m,ht,hv,rfl⟩
     ·have rq:=n6 hu (eQ.trans ht)
      rw[uJ] at rq
      refine b8 h (v:=.int .i64 xs.size) (fun w2=> ?_) (cS _ _)
      simp[execOp,ho,hv,resolve,invoke,builtin,Builtin.len_,run_underlying rq,goInt]
     ·have rq:=(jI hu (eQ.trans ht)).1
      rw[uJ] at rq
      refine b8 h (v:=.int .i64 m) (fun w2=> ?_) (cS _ _)
      simp[execOp,ho,hv,resolve,invoke,builtin,Builtin.len_,run_underlying rq,goInt]
    ·cases e
  ·cases e
 ·cases e
theorem WE (h:bd σ w0 W0 Z H S a w) {o:Oper} {c x y:Operand} (ho:o.op=.pick c x y) (e:JW Θ S o.dst o.type c x y=some (true,S')):gR P w0 W0 Z H S' a o.dst w (execOp a.eval o):=by
 unfold JW at e
 split at e
 ·rename_i m q hq
  obtain⟨cs,h1,h2,_⟩:=gE h hq
  have hv:=cV h1 h2
  have cQ:∀ w2,Ext w w2→(execOp a.eval o).run P w2=.ok (.value (if q=true then a.eval x else a.eval y)) w2:=fun w2 _=>by
   simp only[execOp,ho,hv,asBool]
   rfl
  split at e
  ·rename_i m1 x1 e1 m2 y1 e2 hx hy
   injection e with e;injection e with _ e;subst e
   refine cn h cQ ?_
   obtain⟨c1,k1,k2⟩:=bC h hx
   obtain⟨c2,k3,k4⟩:=bC h hy
   simp only[M] at k2 k4
   have:=cV k1 k2.2
   have:=cV k3 k4.2
   cases q<;>simp_all<;>exact cf _
  ·rename_i p r mo hx hy
   cases q with
   |true=>
    simp only[cond_true] at e
    split at e
    ·rename_i av dh
     injection e with e;injection e with _ e;subst e
     exact cn h (fun w2 hw=>by simpa using cQ w2 hw) (n9 h hx dh)
    ·cases e
   |false=>
    simp only[cond_false] at e
    split at e
    ·rename_i av dh
     injection e with e;injection e with _ e;subst e
     exact cn h (fun w2 hw=>by simpa using cQ w2 hw) (n9 h hy dh)
    ·cases e
  ·cases e
 ·cases e
end Go.Pv
namespace Go.Pv
set_option linter.unusedVariables false
set_option linter.unusedSimpArgs false
variable {P:Program} {w w':World} {A A':Nat→Prop} {H:Nat→Value} {tm o7:Nat→Value} {S S':St} {σ:Nat→Option Nat} {w0:World} {W0 Z:Nat→Prop} {a:Act} {own:Nat→Prop} {v:Value} {Θ:cK} {dst:Option Nat}
theorem eV:∀ (p q:Path) (t:Ty) (m:Md) (x:t.I),a8 (p++q) t m x=(a8 p t m x).bind fun b=>a8 q b.t b.m b.x
 |[],q,t,m,x=>rfl
 | .deref::p,q,t,m,x=>by cases t<;>simp only[List.cons_append,a8,Option.bind_none]<;>exact eV p q _ _ _
 | .fst::p,q,t,m,x=>by cases t<;>simp only[List.cons_append,a8,Option.bind_none]<;>exact eV p q _ _ _
 | .snd::p,q,t,m,x=>by cases t<;>simp only[List.cons_append,a8,Option.bind_none]<;>exact eV p q _ _ _
 | .idx i::p,q,t,m,x=>by cases t<;>simp only[List.cons_append,a8,Option.bind_none]<;>exact eV p q _ _ _
theorem e8:∀ (p q:Path) {t:Ty} {m:Md} {x:t.I} {b:TV},a8 p t m x=some b→valid p t x→valid q b.t b.x→valid (p++q) t x
 |[],q,t,m,x,b,hg,_,h=>by simp only[a8,Option.some.injEq] at hg;subst hg;exact h
 | .deref::p,q,.ptr t,m,x,b,hg,h1,h2=>by simp only[a8] at hg;simp only[valid] at h1;simp only[List.cons_append,valid];exact e8 p q hg h1 h2
 | .fst::p,q,.pair _ _,m,x,b,hg,h1,h2=>by simp only[a8] at hg;simp only[valid] at h1;simp only[List.cons_append,valid];exact e8 p q hg h1 h2
 | .snd::p,q,.pair _ _,m,x,b,hg,h1,h2=>by simp only[a8] at hg;simp only[valid] at h1;simp only[List.cons_append,valid];exact e8 p q hg h1 h2
 | .idx i::p,q,.sl t,m,x,b,hg,h1,h2=>by simp only[a8] at hg;simp only[valid] at h1;simp only[List.cons_append,valid];exact⟨h1.1,e8 p q hg h1.2 h2⟩
theorem vP (cs:List Value):(∃ g off,cs=[.pointer (some ⟨g,off,none⟩)])∨((∀ (w:World) (p:Path) (t:Ty),aJ w (.deref::p) (.ptr t) cs=none)∧∀ (w:World) (p:Path) (t:Ty) (l:Option (Nat×Nat)),addrAt w (.deref::p) (.ptr t) cs l=none):=by
 rcases cs with _ |⟨v,_ |⟨_,_⟩⟩
 ·exact .inr ⟨fun _ _ _=>rfl,fun _ _ _ _=>rfl⟩
 ·cases v<;>try exact .inr ⟨fun _ _ _=>rfl,fun _ _ _ _=>rfl⟩
  rename_i x
  rcases x with _ |⟨g,off,_ |_⟩
  ·exact .inr ⟨fun _ _ _=>rfl,fun _ _ _ _=>rfl⟩
  ·exact .inl ⟨g,off,rfl⟩
  ·exact .inr ⟨fun _ _ _=>rfl,fun _ _ _ _=>rfl⟩
 ·cases v<;>try exact .inr ⟨fun _ _ _=>rfl,fun _ _ _ _=>rfl⟩
  rename_i x
  rcases x with _ |⟨g,off,_ |_⟩<;>exact .inr ⟨fun _ _ _=>rfl,fun _ _ _ _=>rfl⟩
theorem Cx (cs:List Value):(∃ g off n c,cs=[.slice (some ⟨g,off,none⟩) n c])∨((∀ (w:World) (i:Nat) (p:Path) (t:Ty),aJ w (.idx i::p) (.sl t) cs=none)∧∀ (w:World) (i:Nat) (p:Path) (t:Ty) (l:Option (Nat×Nat)),addrAt w (.idx i::p) (.sl t) cs l=none):=by
 rcases cs with _ |⟨v,_ |⟨_,_⟩⟩
 ·exact .inr ⟨fun _ _ _ _=>rfl,fun _ _ _ _ _=>rfl⟩
 ·cases v<;>try exact .inr ⟨fun _ _ _ _=>rfl,fun _ _ _ _ _=>rfl⟩
  rename_i x n c
  rcases x with _ |⟨g,off,_ |_⟩
  ·exact .inr ⟨fun _ _ _ _=>rfl,fun _ _ _ _ _=>rfl⟩
  ·exact .inl ⟨g,off,n,c,rfl⟩
  ·exact .inr ⟨fun _ _ _ _=>rfl,fun _ _ _ _ _=>rfl⟩
 ·cases v<;>try exact .inr ⟨fun _ _ _ _=>rfl,fun _ _ _ _ _=>rfl⟩
  rename_i x n c
  rcases x with _ |⟨g,off,_ |_⟩<;>exact .inr ⟨fun _ _ _ _=>rfl,fun _ _ _ _ _=>rfl⟩
theorem e9:∀ (p q:Path) {t:Ty} {m:Md} {x:t.I} {b:TV} (cs:List Value) (l:Option (Nat×Nat)),a8 p t m x=some b→
  aJ w (p++q) t cs=(aJ w p t cs).bind (aJ w q b.t)∧addrAt w (p++q) t cs l=(aJ w p t cs).bind fun c=>addrAt w q b.t c (addrAt w p t cs l)
 |[],q,t,m,x,b,cs,l,hg=>by simp only[a8,Option.some.injEq] at hg;subst hg;exact⟨rfl,rfl⟩
 | .fst::p,q,.pair a' b',m,x,b,cs,l,hg=>by simp only[a8] at hg;simp only[List.cons_append,aJ,addrAt];exact e9 p q _ _ hg
 | .snd::p,q,.pair a' b',m,x,b,cs,l,hg=>by simp only[a8] at hg;simp only[List.cons_append,aJ,addrAt];exact e9 p q _ _ hg
 | .deref::p,q,.ptr t,m,x,b,cs,l,hg=>by
  simp only[a8] at hg
  have ih:=fun c l'=>e9 p q c l' hg
  rw[List.cons_append]
  rcases vP cs with⟨g,off,rfl⟩ |⟨h1,h2⟩
  ·simp only[aJ,addrAt]
   cases hr:rowAt w g off t.size with
   |none=>simp
   |some c=>simp only[Option.bind_some];exact ih c _
  ·simp only[h1,h2,Option.bind_none,and_self]
 | .idx i::p,q,.sl t,m,x,b,cs,l,hg=>by
  simp only[a8] at hg
  have ih:=fun c l'=>e9 p q c l' hg
  rw[List.cons_append]
  rcases Cx cs with⟨g,off,n,c,rfl⟩ |⟨h1,h2⟩
  ·simp only[aJ,addrAt]
   cases hr:rowAt w g (off+i*t.size) t.size with
   |none=>simp
   |some c=>simp only[Option.bind_some];exact ih c _
  ·simp only[h1,h2,Option.bind_none,and_self]
theorem ns {g off n:Nat} {cs:List Value} (h:rowAt w g off n=some cs):cs.length=n∧∃ cur T fr,w.heap[g]? =some (.cells cur T fr)∧off+n≤cur.size∧cs=(cur.toList.drop off).take n:=by
 unfold rowAt at h
 split at h
 ·rename_i cur T fr hw
  split at h
  ·rename_i hl
   injection h with h
   subst h
   refine⟨by simp;omega,cur,T,fr,hw,hl,rfl⟩
  ·cases h
 ·cases h
theorem yN {g off n a b:Nat} {cs:List Value} (h:rowAt w g off n=some cs) (uI:a+b≤n):rowAt w g (off+a) b=some ((cs.drop a).take b):=by
 obtain⟨_,cur,T,fr,hw,hl,rfl⟩:=ns h
 rw[bz hw (by omega),List.drop_take,List.take_take,List.drop_drop,Nat.min_eq_left (by omega)]
theorem pJ:∀ (p:Path) {t:Ty} {m:Md} {x:t.I} {b:TV} {cs cL:List Value} {l:Option (Nat×Nat)} {g off:Nat},a8 p t m x=some b→cs.length=t.size→(∀ g o,l=some (g,o)→rowAt w g o t.size=some cs)→
  aJ w p t cs=some cL→addrAt w p t cs l=some (g,off)→rowAt w g off b.t.size=some cL
 |[],t,m,x,b,cs,cL,l,g,off,hg,hl,hr,hc,ha=>by
  simp only[a8,Option.some.injEq] at hg;subst hg
  simp only[aJ,Option.some.injEq] at hc;subst hc
  exact hr g off ha
 | .fst::p,.pair a' b',m,x,b,cs,cL,l,g,off,hg,hl,hr,hc,ha=>by
  simp only[a8] at hg;simp only[aJ] at hc;simp only[addrAt] at ha;simp only[Ty.size] at hl hr
  refine pJ p hg (by rw[List.length_take];omega) (fun g o e=> ?_) hc ha
  have:=yN (a:=0) (b:=a'.size) (hr g o e) (by omega)
  rw[Nat.add_zero,List.drop_zero] at this
  exact this
 | .snd::p,.pair a' b',m,x,b,cs,cL,l,g,off,hg,hl,hr,hc,ha=>by
  simp only[a8] at hg;simp only[aJ] at hc;simp only[addrAt] at ha;simp only[Ty.size] at hl hr
  refine pJ p hg (by rw[List.length_drop];omega) (fun g o e=> ?_) hc ha
  cases l with
  |none=>simp at e
  |some q=>
   simp only[Option.map_some,Option.some.injEq,Prod.mk.injEq] at e
   obtain⟨rfl,rfl⟩:=e
   have:=yN (a:=a'.size) (b:=b'.size) (hr q.1 q.2 rfl) (by omega)
   rw[List.take_of_length_le (by rw[List.length_drop];omega)] at this
   exact this
 | .deref::p,.ptr t,m,x,b,cs,cL,l,g,off,hg,hl,hr,hc,ha=>by
  simp only[a8] at hg
  rcases vP cs with⟨g1,aaY,rfl⟩ |⟨h1,h2⟩
  ·simp only[aJ] at hc
   simp only[addrAt] at ha
   cases fU:rowAt w g1 aaY t.size with
   |none=>rw[fU] at hc;simp at hc
   |some c=>
    rw[fU] at hc ha
    simp only[Option.bind_some] at hc ha
    exact pJ p hg (ns fU).1 (fun g o e=>by injection e with e;injection e with e1 e2;subst e1 e2;exact fU) hc ha
  ·rw[h1] at hc;cases hc
 | .idx i::p,.sl t,m,x,b,cs,cL,l,g,off,hg,hl,hr,hc,ha=>by
  simp only[a8] at hg
  rcases Cx cs with⟨g1,aaY,n,c1,rfl⟩ |⟨h1,h2⟩
  ·simp only[aJ] at hc
   simp only[addrAt] at ha
   cases fU:rowAt w g1 (aaY+i*t.size) t.size with
   |none=>rw[fU] at hc;simp at hc
   |some c=>
    rw[fU] at hc ha
    simp only[Option.bind_some] at hc ha
    exact pJ p hg (ns fU).1 (fun g o e=>by injection e with e;injection e with e1 e2;subst e1 e2;exact fU) hc ha
  ·rw[h1] at hc;cases hc
theorem yO (hT:cM P Θ=true) {T:TypeId} {t:Ty} {g off:Nat} {cs:List Value} (ht:Θ.is T t=true) (h:rowAt w g off t.size=some cs):
  ∃ v,(∀ w2,Ext w w2→(Instr.loadAt T (.pointer (some ⟨g,off,none⟩))).run P w2=.ok v w2)∧an t v cs:=by
 suffices hs:∀ w2,Ext w w2→∃ v,(Instr.loadAt T (.pointer (some ⟨g,off,none⟩))).run P w2=.ok v w2∧an t v cs by
  obtain⟨v,_,h2⟩:=hs w (Ext.refl w)
  refine⟨v,fun w2 hw=> ?_,h2⟩
  obtain⟨v',k1,k2⟩:=hs w2 hw
  rw[k1]
  unfold an at h2 k2
  split at h2
  ·rename_i ha;rw[if_pos ha] at k2;rw[h2,k2]
  ·rename_i ha;rw[if_neg ha] at k2;rw[h2] at k2;injection k2 with k2;rw[k2]
 intro w2 xw
 have h:rowAt w2 g off t.size=some cs:=by
  obtain⟨_,cur,T',fr,hw,_,_⟩:=ns h
  unfold rowAt at h ⊢
  rw[xw g (bO hw)]
  exact h
 clear xw
 revert h
 generalize w2=w
 intro h
 obtain⟨hl,cur,T',fr,hw,hs,rfl⟩:=ns h
 obtain⟨inf,hi,iD,_⟩:=gD hT ht
 have Cy:∀ j v,((cur.toList.drop off).take t.size)[j]? =some v→w.cell? ((⟨g,off,none⟩:Addr).add j)=some v:=by
  intro j v hj
  rw[jr]
  unfold World.cell?
  simp only[hw,Option.isSome_none,Bool.false_eq_true,if_false]
  rw[List.getElem?_take] at hj
  split at hj
  ·rw[List.getElem?_drop] at hj
   simpa using hj
  ·cases hj
 have aja:=Kq hT ht w
 simp only[Instr.loadAt,Instr.sureAddr,loadVar,Sem.run_bind,Sem.run_pure,Result.andThen_ok,aja]
 cases hb:isAgg t with
 |true=>
  refine⟨.agg ((cur.toList.drop off).take t.size).toArray, ?_,by simp[an,hb]⟩
  have WG:=run_loadCells_list (P:=P) (w:=w) ⟨g,off,none⟩ _ Cy
  rw[hl] at WG
  simp only[if_true,Sem.run_bind,sizeOf,typeInfo,run_program,Result.andThen_ok,hi,Sem.run_pure,iD,WG]
 |false=>
  have h1:t.size=1:=by cases t<;>simp[isAgg] at hb<;>rfl
  rw[h1] at hl Cy ⊢
  obtain⟨u,hu⟩:∃ u,(cur.toList.drop off).take 1=[u]:=by
   cases hx:(cur.toList.drop off).take 1 with
   |nil=>rw[hx] at hl;simp at hl
   |cons u r=>
    rw[hx] at hl
    cases r with
    |nil=>exact⟨u,rfl⟩
    |cons _ _=>simp at hl
  refine⟨u, ?_,by simp[an,hb,hu]⟩
  have:=Cy 0 u (by rw[hu];rfl)
  rw[Addr.add_zero'] at this
  simp[load,Sem.run,this]
end Go.Pv
namespace Go.Pv
set_option linter.unusedVariables false
set_option linter.unusedSimpArgs false
variable {P:Program} {w w':World} {A A':Nat→Prop} {H:Nat→Value} {tm o7:Nat→Value} {S S':St} {σ:Nat→Option Nat} {w0:World} {W0 Z:Nat→Prop} {a:Act} {own:Nat→Prop} {v:Value} {Θ:cK} {dst:Option Nat}
def Mt (w:World) (A:Nat→Prop) (tm:Nat→Value) (S:St):OL→Value→Prop
 | .k b,v=>∃ cs,an (.ptr b.t) v cs∧K w A (.ptr b.t) b.x cs
 | .pl t s p,v=>∃ r ex,S.at s=.v r ex∧(open_ p ex→∃ bY g off,Ref tm S t s p r bY∧addrAt w p r.t bY none=some (g,off)∧v=.pointer (some ⟨g,off,none⟩))
theorem QE (h:bd σ w0 W0 Z H S a w) {i:Nat} {t:Ty} {T:TypeId} {tag:Option Nat} {me:Md} {y:t.I} {ex:List Path} (hi:S.at i=.v ⟨.ptr t,.o T tag me,y⟩ ex):
  Mt w (Av σ Z) (bM a) S (.pl t i [.deref]) (bM a i):=by
 refine⟨_,ex,hi,fun ho=> ?_⟩
 have hh:=h.holds i
 rw[hi] at hh
 obtain⟨cs,h1,h2⟩:=hh
 simp only[M] at h2
 rcases h2 with⟨hn,_⟩ |⟨hk,_⟩ |⟨T',agx,me',g,cur,e,rfl,ht,hg,hw,hM⟩
 ·exact absurd hn ho.not_nil
 ·simp[Md.bQ] at hk
 ·have hlen:=(eS t hM).1
  refine⟨_,g,0,⟨⟨ex,hi,ho⟩,trivial,⟨_,rfl,rfl⟩,h1⟩, ?_,by simpa[an,isAgg] using h1.symm⟩
  have hs:0+t.size≤cur.size:=by rw[←hlen];simp
  simp only[addrAt,bz hw hs,Option.bind_some]
theorem O' {p q:Path} {ex:List Path} (h:open_ (p++q) ex):open_ p ex:=fun r hr s u e=>h r hr s (u++q) (by rw[e];simp)
theorem tC {p:Path} {s:Step} {q:Path} {ex:List Path} (h:open_ (p++s::q) ex):[]∉s6 p ex:=fun hm=>by
 have:=yi.1 hm
 rw[List.append_nil] at this
 exact h p this s q rfl
theorem pK (h:bd σ w0 W0 Z H S a w) {T:TypeId} {x:Operand} {av:AV} {g:OL} (ho:S.dn Θ T x=some av) (e:S.rh x av=some g):Mt w (Av σ Z) (bM a) S g (a.eval x):=by
 have hh:=bC h ho
 have nt:∀ {t:Ty} {T:TypeId} {tag:Option Nat} {me:Md} {y:t.I} {ex:List Path} {i:Nat},av=.v ⟨.ptr t,.o T tag me,y⟩ ex→x=.tmp i→Mt w (Av σ Z) (bM a) S (.pl t i [.deref]) (a.eval x):=by
  intro t T tag me y ex i e1 e2
  subst e2
  simp only[St.dn,Option.some.injEq] at ho
  rw[e1] at ho
  exact QE h ho
 unfold St.rh at e
 split at e
 ·rename_i t m y
  split at e
  ·injection e with e;subst e
   obtain⟨cs,h1,h2⟩:=hh
   exact⟨cs,h1,eU _ rfl h2⟩
  ·injection e with e;subst e
   exact nt rfl rfl
  ·cases e
 ·split at e
  ·injection e with e;subst e
   exact nt rfl rfl
  ·cases e
 ·rename_i t s p
  obtain⟨r,bY,cs,hr,hc,hm⟩:=hh
  split at e
  ·rename_i t' y yy
   injection e with e;subst e
   obtain⟨ex,b,cL,cG,k1,k2,k3,k4,hM,k5,k6,k7⟩:=fm h hr
   obtain⟨r',xL,q1,q2,q3⟩:=dx yy
   rw[k1] at q1
   injection q1 with q1 yM
   subst q1 yM
   rw[k3] at q3
   injection q3 with q3
   subst q3
   rw[k5] at hc
   injection hc with hc
   subst hc
   simp only at k4
   rw[←k4] at hm
   exact⟨_,hm,eU _ rfl k7⟩
  ·rename_i t' T' agx me' y yy
   injection e with e;subst e
   obtain⟨ex,b,cL,cG,k1,k2,k3,k4,hM,k5,k6,k7⟩:=fm h hr
   obtain⟨r',xL,q1,q2,q3⟩:=dx yy
   rw[k1] at q1
   injection q1 with q1 yM
   subst q1 yM
   rw[k3] at q3
   injection q3 with q3
   subst q3
   rw[k5] at hc
   injection hc with hc
   subst hc
   simp only at k4
   injection k4 with k4
   subst k4
   refine⟨r,ex,k1,fun bP=> ?_⟩
   simp only[M] at k7
   rcases k7 with⟨hn,_⟩ |⟨hk,_⟩ |⟨T',agx,me',g,cur,e,rfl,ht,hg,hw,hM'⟩
   ·exact absurd hn (tC bP)
   ·simp[Md.bQ] at hk
   ·have hlen:=(eS _ hM').1
    have hs:0+Ty.size t'≤cur.size:=by rw[←hlen];simp
    refine⟨bY,g,0,⟨⟨ex,k1,bP⟩,e8 p [.deref] k3 hr.val trivial,⟨_,by rw[eV,k3];rfl,rfl⟩,hr.J5⟩, ?_,by simpa[an,isAgg] using hm.symm⟩
    rw[(e9 p [.deref] bY none k3).2,k5]
    simp only[Option.bind_some,addrAt,bz hw hs]
  ·cases e
 ·rename_i t s p
  injection e with e;subst e
  obtain⟨r,bY,g,off,hr,hc,hm⟩:=hh
  obtain⟨ex,k1,k2⟩:=hr.at_
  exact⟨r,ex,k1,fun _=>⟨bY,g,off,hr,hc,hm⟩⟩
 ·cases e
theorem GB (h:bd σ w0 W0 Z H S a w) {o:Oper} {x:Operand} (ho:o.op=.nilCheck x) (e:rP Θ S o.dst x=some (true,S')):gR P w0 W0 Z H S' a o.dst w (execOp a.eval o):=by
 unfold rP at e
 split at e
 ·rename_i av dh
  split at e
  ·rename_i g hg
   split at e
   ·rename_i r _ hr yy
    injection e with e;injection e with _ e;subst e
    have hc:=n9 h dh hr
    have hl:=pK h dh hg
    have hp:(∃ ad,a.eval x=.pointer (some ad)):=by
     cases g with
     |k b=>
      obtain⟨cs,h1,h2⟩:=hl
      simp only[K] at h2
      obtain⟨g,off,cur,T,fr,rfl,_⟩:=h2
      exact⟨_,by simpa[an,isAgg] using h1.symm⟩
     |pl t s p=>
      obtain⟨r',ex,k1,k2⟩:=hl
      simp only at yy
      split at yy
      ·rename_i b hb
       obtain⟨r2,QD,q1,q2,q3⟩:=dx hb
       rw[k1] at q1
       injection q1 with q1 yM
       subst q1 yM
       obtain⟨bY,g,off,_,_,e3⟩:=k2 (dq q2)
       exact⟨_,e3⟩
      ·cases yy
    obtain⟨ad,hp⟩:=hp
    exact cn h (v:=a.eval x) (fun w2 _=>by simp only[execOp,ho,hp];rfl) hc
   ·cases e
  ·cases e
 ·cases e
theorem GC (hT:cM P Θ=true) (h:bd σ w0 W0 Z H S a w) {T:TypeId} {g:OL} {r:AV} {v:Value} (hl:Mt w (Av σ Z) (bM a) S g v) (e:S.loadAt g=some r) (ht:Θ.is T g.ty=true):
  ∃ u,(∀ w2,Ext w w2→(Instr.loadAt T v).run P w2=.ok u w2)∧Holds w (Av σ Z) H (bM a) S (fun _=>False) r u:=by
 cases g with
 |k b=>
  simp only[St.loadAt,Option.some.injEq] at e
  subst e
  obtain⟨cs,h1,h2⟩:=hl
  simp only[K] at h2
  obtain⟨g,off,cur,T',fr,rfl,hg,hw,hs,hk⟩:=h2
  obtain rfl:v=.pointer (some ⟨g,off,none⟩):=by simpa[an,isAgg] using h1.symm
  obtain⟨u,k1,k2⟩:=yO hT ht (bz hw hs)
  exact⟨u,k1,_,k2,eX _ hk⟩
 |pl t s p=>
  simp only[St.loadAt] at e
  obtain⟨r',ex,k1,k2⟩:=hl
  split at e
  ·rename_i b hb
   obtain⟨r2,QD,q1,q2,q3⟩:=dx hb
   rw[k1] at q1
   injection q1 with q1 yM
   subst q1 yM
   obtain⟨bY,g,off,hr,ha,rfl⟩:=k2 (dq q2)
   obtain⟨xL,b',cL,cG,j1,j2,j3,j4,hM,j5,j6,j7⟩:=fm h hr
   rw[k1] at j1
   injection j1 with j1 j1'
   subst j1'
   rw[q3] at j3
   injection j3 with j3
   subst j3
   subst j4
   have fU:=pJ p q3 (eS _ hM).1 (fun g o e=>by cases e) j5 ha
   obtain⟨u,l1,l2⟩:=yO hT ht fU
   refine⟨u,l1, ?_⟩
   cases hk:b.m.bQ with
   |true=>
    rw[hk] at e
    simp only[cond_true] at e
    split at e
    ·rename_i c hc
     injection e with e;subst e
     obtain⟨_,nu,_,hM2⟩:=cP h hr j5 hc
     have hcb:c=b:=by
      obtain⟨r3,ex3,p1,p2,p3⟩:=oa hc
      rw[k1] at p1
      injection p1 with p1 p1'
      subst p1
      rw[q3] at p3
      injection p3 with p3
      exact p3.symm
     subst hcb
     exact⟨_,l2,eX _ (eU _ hk hM2)⟩
    ·cases e
   |false=>
    rw[hk] at e
    simp only[cond_false,Option.some.injEq] at e
    subst e
    exact⟨r',bY,cL,hr,j5,l2⟩
  ·cases e
theorem WH (hT:cM P Θ=true) (h:bd σ w0 W0 Z H S a w) {o:Oper} {T:TypeId} {x:Operand} (ho:o.op=.load T x) (e:eW Θ S o.dst T x=some (true,S')):gR P w0 W0 Z H S' a o.dst w (execOp a.eval o):=by
 unfold eW at e
 split at e
 ·rename_i av dh
  split at e
  ·rename_i g hg
   split at e
   ·rename_i r hr
    have hl:=pK h dh hg
    cases hc:(Gb g.ty r&&Θ.is T g.ty) with
    |false=>rw[hc] at e;cases e
    |true=>
     rw[hc] at e
     replace hc:=((Bool.and_eq_true _ _).mp hc).2
     simp only[cond_true,Option.some.injEq,Prod.mk.injEq,true_and] at e
     subst e
     obtain⟨u,h1,h2⟩:=GC hT h hl hr hc
     refine cn h (v:=u) (fun w2 hw=> ?_) h2
     simp only[execOp,ho,Sem.run_bind,h1 w2 hw]
     rfl
   ·cases e
  ·cases e
 ·cases e
end Go.Pv
namespace Go.Pv
set_option linter.unusedVariables false
set_option linter.unusedSimpArgs false
variable {P:Program} {w w':World} {A A':Nat→Prop} {H:Nat→Value} {tm o7:Nat→Value} {S S':St} {σ:Nat→Option Nat} {w0:World} {W0 Z:Nat→Prop} {a:Act} {own:Nat→Prop} {v:Value} {Θ:cK} {dst:Option Nat}
theorem hJ:∀ (p:Path) {t:Ty} {m:Md} {x:t.I} {b:TV},m.bQ=true→a8 p t m x=some b→b.m.bQ=true
 |[],t,m,x,b,hk,hg=>by simp only[a8,Option.some.injEq] at hg;subst hg;exact hk
 | .deref::p,.ptr t,m,x,b,hk,hg=>by simp only[a8] at hg;exact hJ p (nT hk) hg
 | .fst::p,.pair _ _,m,x,b,hk,hg=>by simp only[a8] at hg;exact hJ p (Gc hk) hg
 | .snd::p,.pair _ _,m,x,b,hk,hg=>by simp only[a8] at hg;exact hJ p (Gd hk) hg
 | .idx i::p,.sl t,m,x,b,hk,hg=>by simp only[a8] at hg;exact hJ p (nT hk) hg
theorem gv:∀ (p:Path) {t:Ty} {m:Md} {x:t.I} {b:TV},aK p=true→a8 p t m x=some b→valid p t x
 |[],_,_,_,_,_,_=>trivial
 | .fst::p,.pair _ _,m,x,b,h,hg=>by simp only[a8] at hg;simp only[valid];exact gv p (by simpa[aK] using h) hg
 | .snd::p,.pair _ _,m,x,b,h,hg=>by simp only[a8] at hg;simp only[valid];exact gv p (by simpa[aK] using h) hg
theorem ob:∀ (p:Path) {t:Ty} {m:Md} {x:t.I} {b:TV},aK p=true→a8 p t m x=some b→fB p t=some b.t
 |[],_,_,_,_,_,hg=>by simp only[a8,Option.some.injEq] at hg;subst hg;rfl
 | .fst::p,.pair _ _,m,x,b,h,hg=>by simp only[a8] at hg;simp only[fB];exact ob p (by simpa[aK] using h) hg
 | .snd::p,.pair _ _,m,x,b,h,hg=>by simp only[a8] at hg;simp only[fB];exact ob p (by simpa[aK] using h) hg
theorem hY:∀ (p q:Path),aK p=true→aK q=true→aK (p++q)=true
 |[],_,_,h=>h
 | .fst::p,q,h,h'=>by simp only[List.cons_append,aK];exact hY p q (by simpa[aK] using h) h'
 | .snd::p,q,h,h'=>by simp only[List.cons_append,aK];exact hY p q (by simpa[aK] using h) h'
theorem kh:∀ n,aK (List.replicate n .snd)=true
 |0=>rfl
 |n+1=>by rw[List.replicate_succ];simp only[aK];exact kh n
theorem gS (i n:Nat):aK (mm i n)=true:=by
 unfold mm
 cases Nat.beq (i+1) n<;>cases Nat.beq n 1<;>simp only[cond_true,cond_false]
 ·exact hY _ _ (kh _) rfl
 ·exact hY _ _ (kh _) rfl
 ·exact kh _
 ·rfl
theorem aaZ {t:Ty} {x:t.I} {p:Path} {b:TV} {cs:List Value} {v:Value} (hm:an (.ptr t) v cs) (h:K w A (.ptr t) x cs) (hp:aK p=true) (hg:a8 p t .k x=some b):
  ∃ g off,v=.pointer (some ⟨g,off,none⟩)∧K w A (.ptr b.t) b.x [.pointer (some ⟨g,off+aE p t,none⟩)]:=by
 simp only[K] at h
 obtain⟨g,off,cur,T',fr,rfl,hA,hw,hs,hk⟩:=h
 refine⟨g,off,by simpa[an,isAgg] using hm.symm, ?_⟩
 have hl:=(jF t hk).1
 obtain⟨cL,cG,k1,k2,k3⟩:=focus (w:=w) (Wr:=A) (H:=fun _=>undef) (ow:=fun _=>False) (hs:=[]) p (eX t hk) (fun _ h=>by simp at h) (gv p hp hg) hg
 rw[dp p hp hg hl] at k1
 injection k1 with k1
 subst k1
 have hf:=cT p hp hg
 simp only[K]
 refine⟨g,off+aE p t,cur,T',fr,rfl,hA,hw,by omega, ?_⟩
 have:=eU _ (hJ p rfl hg) k3
 rw[List.drop_take,List.take_take,List.drop_drop,Nat.min_eq_left (by omega)] at this
 exact this
theorem tD {p:Path} {t:Ty} {m:Md} {x:t.I} {b:TV} (hp:p≠[]) (h:aK p=true) (hg:a8 p t m x=some b):∃ a' b',t=.pair a' b':=by
 cases p with
 |nil=>exact absurd rfl hp
 |cons s p=>cases s<;>cases t<;>simp_all [a8,aK]
theorem QF {i n:Nat} (h:i<n):mm i n≠[]:=by
 unfold mm
 cases hb:Nat.beq (i+1) n with
 |false=>simp
 |true=>
  cases hc:Nat.beq n 1 with
  |true=>simp
  |false=>
   simp only[cond_true,cond_false]
   have h1:=Nat.eq_of_beq_eq_true hb
   have h2:=Nat.ne_of_beq_eq_false hc
   cases i with
   |zero=>omega
   |succ i=>simp[List.replicate_succ]
theorem tE (hT:cM P Θ=true) (h:bd σ w0 W0 Z H S a w) {o:Oper} {T:TypeId} {x:Operand} {f:Nat} (ho:o.op=.fieldAddr T x f) (e:fE Θ S o.dst T x f=some (true,S')):jR P w0 W0 Z H S' a o.dst w (execOp a.eval o):=by
 unfold fE at e
 split at e
 ·rename_i av i dh hi
  cases cI:Nat.blt f i.fs.length with
  |false=>rw[cI] at e;cases e
  |true=>
   rw[cI] at e
   simp only[cond_true] at e
   have hf:f<i.fs.length:=Nat.lt_of_succ_le (Nat.le_of_ble_eq_true cI)
   obtain⟨_,hu,uJ⟩:=cO hT hi
   -- the address of the field
   have run:∀ (w2:World) (g off:Nat) (b:TV) (t:Ty) (m:Md) (y:t.I),i.ty=t→a8 (mm f i.fs.length) t m y=some b→
     (Instr.fieldAt T (.pointer (some ⟨g,off,none⟩)) f).run P w2=.ok (.pointer (some ⟨g,off+aE (mm f i.fs.length) t,none⟩)) w2:=by
    intro w2 g off b t m y eQ hg
    have mo:∃ a' b',i.ty=.pair a' b':=by
     subst eQ
     exact tD (QF hf) (gS _ _) hg
    obtain⟨a',b',hp⟩:=mo
    obtain⟨fs,O9,Cw,hfo,_⟩:=lN hu hp
    rw[uJ] at O9
    have hlen:i.fs.length=fs.size:=by rw[←Cw];simp
    obtain⟨fl,agy⟩:∃ fl,fs[f]? =some fl:=⟨fs[f]'(by omega),by simp[show f<fs.size from by omega]⟩
    obtain⟨tf,h1,h2,h3,h4⟩:=gQ hfo f fl (by simpa using agy)
    rw[Nat.zero_add, ←hlen] at h1 h3
    subst eQ
    rw[ob _ (gS _ _) hg] at h1
    injection h1 with h1
    obtain⟨inf,k1,k2,_⟩:=gD hT h2
    simp only[Instr.fieldAt,Sem.run_bind,run_underlying O9,Result.andThen_ok,agy,Instr.sureAddr,Sem.run_pure,fieldPlace,sizeOf,typeInfo,run_program,k1,k2]
    rw[if_neg (by omega)]
    simp only[Sem.run_pure,Result.andThen_ok,jr,h3]
   split at e
   ·rename_i t m y hg
    cases eQ:decide (i.ty=t) with
    |false=>rw[eQ] at e;cases e
    |true=>
     rw[eQ] at e
     simp only[cond_true] at e
     split at e
     ·rename_i b hb
      injection e with e;injection e with _ e;subst e
      obtain⟨cs,h1,h2⟩:=pK h dh hg
      obtain⟨g',off,hv,hk⟩:=aaZ h1 h2 (gS _ _) hb
      refine b8 h (v:=.pointer (some ⟨g',off+aE (mm f i.fs.length) t,none⟩)) (fun w2=> ?_) ⟨[_],by simp[an,isAgg],eX (.ptr b.t) hk⟩
      simp only[execOp,ho,hv,Sem.run_bind,run w2 g' off b t .k y (by simpa using eQ) hb]
      rfl
     ·cases e
   ·rename_i t s p hg
    cases eQ:decide (i.ty=t) with
    |false=>rw[eQ] at e;cases e
    |true=>
     rw[eQ] at e
     simp only[cond_true] at e
     split at e
     ·rename_i b hb
      injection e with e;injection e with _ e;subst e
      obtain⟨r,ex,k1,k2⟩:=pK h dh hg
      obtain⟨r2,QD,q1,q2,q3⟩:=dx hb
      rw[k1] at q1
      injection q1 with q1 yM
      subst q1 yM
      have bP:=dq q2
      obtain⟨bY,g',off,hr,ha,hv⟩:=k2 (O' bP)
      obtain⟨xL,b',cL,cG,j1,j2,j3,j4,hM,j5,j6,j7⟩:=fm h hr
      rw[eV,j3] at q3
      simp only[Option.bind_some] at q3
      refine b8 h (v:=.pointer (some ⟨g',off+aE (mm f i.fs.length) t,none⟩)) (fun w2=> ?_) ⟨r,bY,g',off+aE (mm f i.fs.length) t,⟨⟨ex,k1,bP⟩,e8 p _ j3 hr.val (gv _ (gS _ _) q3),⟨b,by rw[eV,j3];exact q3,rfl⟩,hr.J5⟩, ?_,rfl⟩
      ·subst j4
       simp only[execOp,ho,hv,Sem.run_bind,run w2 g' off b b'.t b'.m b'.x (by simpa using eQ) q3]
       rfl
      ·rw[(e9 p _ bY none j3).2,j5,ha]
       simp only[Option.bind_some]
       rw[fT _ (gS _ _) q3,j4]
     ·cases e
   ·cases e
 ·cases e
theorem Mu {α:Type} (xs:List α) (i:Nat) (d:α) (h:i<xs.length):List.getD xs i d=xs[i]:=by simp[List.getD_eq_getElem?_getD,List.getElem?_eq_getElem h]
theorem mw (hT:cM P Θ=true) {T:TypeId} {t:Ty} {g off len c:Nat} {k:IntKind} {n:Int} (ht:Θ.is T (.sl t)=true) (h0:0≤n) (h1:n<(len:Int)):
  (Instr.indexAt T (.slice (some ⟨g,off,none⟩) len c) (.int k n)).run P w=.ok (.pointer (some ⟨g,off+n.toNat*t.size,none⟩)) w:=by
 obtain⟨i,hi,eQ⟩:=dz ht
 obtain⟨_,hu,uJ⟩:=cO hT hi
 obtain⟨u1,u2,_⟩:=jI hu eQ
 rw[uJ] at u1
 obtain⟨inf,k1,k2,_⟩:=gD hT u2
 simp[Instr.indexAt,asIntOf,run_underlying u1,h0,h1,sizeOf,typeInfo,run_program,k1,k2,jr]
theorem QG {t:Ty} {xs:List t.I} {v:Value} {cs:List Value} {n:Nat} (hm:an (.sl t) v cs) (h:K w A (.sl t) xs cs) (hn:n<xs.length):
  ∃ g off c,v=.slice (some ⟨g,off,none⟩) xs.length c∧K w A (.ptr t) (List.getD xs n t.z) [.pointer (some ⟨g,off+n*t.size,none⟩)]:=by
 simp only[K] at h
 obtain⟨X,c,rfl,hc,h⟩:=h
 obtain⟨g,off,cur,T',fr,rfl,hA,hw,hs,hk⟩:=h (by omega)
 refine⟨g,off,c,by simpa[an,isAgg] using hm.symm, ?_⟩
 simp only[K]
 have hb:off+n*t.size+t.size≤cur.size:=by
  have:=Nat.mul_le_mul_right t.size (show n+1≤xs.length from hn)
  rw[Nat.add_mul,Nat.one_mul] at this
  omega
 exact⟨g,_,cur,T',fr,rfl,hA,hw,hb,by rw[Mu _ _ _ hn];exact hk n hn⟩
theorem tF (hT:cM P Θ=true) (h:bd σ w0 W0 Z H S a w) {o:Oper} {T:TypeId} {x ix:Operand} (ho:o.op=.indexAddr T x ix) (e:b6 Θ S o.dst T x ix=some (true,S')):jR P w0 W0 Z H S' a o.dst w (execOp a.eval o):=by
 unfold b6 at e
 split at e
 ·rename_i t m xs ex n dh hn
  obtain⟨k,hk⟩:=gK h hn
  cases hc:Θ.is T (.sl t) with
  |false=>rw[hc] at e;cases e
  |true=>
   rw[hc] at e
   simp only[cond_true] at e
   split at e
   ·injection e with e;injection e with e1 e;subst e
    obtain⟨b1,b2⟩:=pI e1
    obtain⟨cs,h1,h2⟩:=bC h dh
    have hK:=eU _ rfl h2
    obtain⟨g,off,c,hv,Cz⟩:=QG (n:=n.toNat) h1 hK (by have b2':n<(List.length xs:Int):=b2;show n.toNat<List.length xs;omega)
    refine b8 h (v:=.pointer (some ⟨g,off+n.toNat*t.size,none⟩)) (fun w2=> ?_) ⟨[_],by simp[an,isAgg],eX (.ptr t) Cz⟩
    simp only[execOp,ho,hv,hk,Sem.run_bind,mw hT hc b1 b2]
    rfl
   ·rename_i T' tag me j
    split at e
    ·rename_i b hb
     injection e with e;injection e with e1 e;subst e
     obtain⟨b1,b2⟩:=pI e1
     have dG:S.at j=.v ⟨.sl t,.o T' tag me,xs⟩ ex:=by simpa[St.dn] using dh
     obtain⟨r2,QD,q1,q2,q3⟩:=dx hb
     rw[dG] at q1
     injection q1 with q1 yM
     subst q1 yM
     have bP:=dq q2
     obtain⟨cs,h1,h2⟩:=bC h dh
     simp only[M] at h2
     rcases h2 with⟨mo,_⟩ |⟨fA,_⟩ |⟨T2,Pa,me2,X,c,e2,rfl,hcc,WI,h2⟩
     ·exact absurd mo bP.not_nil
     ·simp[Md.bQ] at fA
     ·have hv:a.eval (.tmp j)=.slice X xs.length c:=by simpa[an,isAgg] using h1.symm
      rcases h2 with⟨rfl,_⟩ |⟨g,cur,τ,rfl,hg,hw,iD,hm,hj⟩
      ·simp at b2;omega
      ·have cI:n.toNat<xs.length:=by omega
       have hbound:0+n.toNat*t.size+t.size≤cur.size:=by
        have h1:=Nat.mul_le_mul_right t.size (show n.toNat+1≤xs.length from cI)
        have h2:=Nat.mul_le_mul_right t.size hcc
        rw[Nat.add_mul,Nat.one_mul] at h1
        omega
       refine b8 h (v:=.pointer (some ⟨g,0+n.toNat*t.size,none⟩)) (fun w2=> ?_) ⟨_,[.slice (some ⟨g,0,none⟩) xs.length c],g,0+n.toNat*t.size,⟨⟨ex,dG,bP⟩,⟨cI,trivial⟩,⟨_,rfl,rfl⟩,h1⟩, ?_,rfl⟩
       ·simp only[execOp,ho,hv,hk,Sem.run_bind,mw hT hc b1 b2]
        rfl
       ·simp only[addrAt,bz hw hbound,Option.bind_some]
    ·cases e
   ·cases e
 ·rename_i t s p n dh hn
  obtain⟨k,hk⟩:=gK h hn
  cases hc:Θ.is T (.sl t) with
  |false=>rw[hc] at e;cases e
  |true=>
   rw[hc] at e
   simp only[cond_true] at e
   obtain⟨r,bY,cs,hr,l9,hm⟩:=bC h dh
   obtain⟨ex,b,cL,cG,j1,j2,j3,j4,hM,j5,j6,j7⟩:=fm h hr
   rw[l9] at j5
   injection j5 with j5
   subst j5
   split at e
   ·rename_i t' xs yy
    injection e with e;injection e with e1 e;subst e
    obtain⟨b1,b2⟩:=pI e1
    obtain⟨r2,QD,q1,q2,q3⟩:=dx yy
    rw[j1] at q1
    injection q1 with q1 yM
    subst q1 yM
    rw[j3] at q3
    injection q3 with q3
    subst q3
    injection j4 with j4
    subst j4
    have hK:=eU _ rfl j7
    obtain⟨g,off,c,hv,Cz⟩:=QG (n:=n.toNat) hm hK (by have b2':n<(List.length xs:Int):=b2;show n.toNat<List.length xs;omega)
    refine b8 h (v:=.pointer (some ⟨g,off+n.toNat*Ty.size t',none⟩)) (fun w2=> ?_) ⟨[_],by simp[an,isAgg],eX (.ptr _) Cz⟩
    simp only[execOp,ho,hv,hk,Sem.run_bind,mw hT hc b1 b2]
    rfl
   ·rename_i t' T' tag me xs yy
    split at e
    ·rename_i b2' hb
     injection e with e;injection e with e1 e;subst e
     obtain⟨b1,b2⟩:=pI e1
     obtain⟨r2,QD,q1,q2,q3⟩:=dx yy
     rw[j1] at q1
     injection q1 with q1 yM
     subst q1 yM
     rw[j3] at q3
     injection q3 with q3
     subst q3
     injection j4 with j4
     subst j4
     obtain⟨r3,ex3,p1,p2,p3⟩:=dx hb
     rw[j1] at p1
     injection p1 with p1 p1'
     subst p1 p1'
     have bP:=dq p2
     simp only[M] at j7
     rcases j7 with⟨mo,_⟩ |⟨fA,_⟩ |⟨T2,Pa,me2,X,c,e2,rfl,hcc,WI,h2⟩
     ·exact absurd mo (tC bP)
     ·simp[Md.bQ] at fA
     ·have hv:a.eval x=.slice X (List.length xs) c:=by simpa[an,isAgg] using hm.symm
      rcases h2 with⟨rfl,_⟩ |⟨g,cur,τ,rfl,hg,hw,iD,hm',hj⟩
      ·simp at b2;omega
      ·have cI:n.toNat<List.length xs:=by omega
       have hbound:0+n.toNat*Ty.size t'+Ty.size t'≤cur.size:=by
        have h1:=Nat.mul_le_mul_right (Ty.size t') (show n.toNat+1≤List.length xs from cI)
        have h2:=Nat.mul_le_mul_right (Ty.size t') hcc
        rw[Nat.add_mul,Nat.one_mul] at h1
        omega
       refine b8 h (v:=.pointer (some ⟨g,0+n.toNat*Ty.size t',none⟩)) (fun w2=> ?_) ⟨r,bY,g,0+n.toNat*Ty.size t',⟨⟨ex,j1,bP⟩,e8 p _ j3 hr.val ⟨cI,trivial⟩,⟨_,by rw[eV,j3];rfl,rfl⟩,hr.J5⟩, ?_,rfl⟩
       ·simp only[execOp,ho,hv,hk,Sem.run_bind,mw hT hc b1 b2]
        rfl
       ·rw[(e9 p _ bY none j3).2,l9]
        simp only[Option.bind_some,addrAt,bz hw hbound]
    ·cases e
   ·cases e
 ·cases e
end Go.Pv
namespace Go.Pv
set_option linter.unusedVariables false
set_option linter.unusedSimpArgs false
variable {P:Program} {w w':World} {A A':Nat→Prop} {H:Nat→Value} {tm o7:Nat→Value} {S S':St} {σ:Nat→Option Nat} {w0:World} {W0 Z:Nat→Prop} {a:Act} {own:Nat→Prop} {v:Value} {Θ:cK} {dst:Option Nat}
theorem qK {k:IntKind} {i:Int} {y:Nat} {code:BoundsCode} (h0:0≤i) (h1:i≤y):(Instr.sliceBound (.int k i) y code).run P w=.ok i.toNat w:=by
 simp[Instr.sliceBound,asIntOf,h0,h1]
theorem yP {sl:Bool} {len cap:Nat} {lo hi:Option Value} {l h:Int} (Qj:(lo=none∧l=0)∨∃ k,lo=some (.int k l)) (BN:(hi=none∧h=len)∨∃ k,hi=some (.int k h))
  (h0:0≤l) (h1:l≤h) (h2:h≤len) (h3:len≤cap):(Instr.sliceBounds sl len cap lo hi none).run P w=.ok (l.toNat,h.toNat,cap) w:=by
 have e1:∀ k code,(Instr.sliceBound (.int k l) h.toNat code).run P w=.ok l.toNat w:=fun k code=>qK h0 (by omega)
 have e2:∀ k code,(Instr.sliceBound (.int k h) cap code).run P w=.ok h.toNat w:=fun k code=>qK (by omega) (by omega)
 unfold Instr.sliceBounds
 rcases Qj with⟨rfl,rfl⟩ |⟨k,rfl⟩<;>rcases BN with⟨rfl,rfl⟩ |⟨k',rfl⟩
 ·simp
 ·simp[e2]
 ·have DD:∀ k code,(Instr.sliceBound (.int k l) len code).run P w=.ok l.toNat w:=fun k code=>qK h0 (by omega)
  simp[DD]
 ·simp[e1,e2]
theorem gT (h:bd σ w0 W0 Z H S a w) {x:Option Operand} {d n:Int} (e:gf Θ S d x=some n):(x.map a.eval=none∧n=d)∨∃ k,x.map a.eval=some (.int k n):=by
 cases x with
 |none=>simp only[gf,Option.some.injEq] at e;exact .inl ⟨rfl,e.symm⟩
 |some x=>
  obtain⟨k,hk⟩:=gK h e
  exact .inr ⟨k,by simp[hk]⟩
theorem GD (hT:cM P Θ=true) (h:bd σ w0 W0 Z H S a w) {o:Oper} {T:TypeId} {x:Operand} {lo hi mx:Option Operand} (ho:o.op=.slice T x lo hi mx) (e:dM Θ S o.dst T x lo hi mx=some (true,S')):jR P w0 W0 Z H S' a o.dst w (execOp a.eval o):=by
 unfold dM at e
 split at e
 ·rename_i av m s l dh Mk hl
  split at e
  ·rename_i hh BN
   cases hc:Θ.is T .str with
   |false=>rw[hc] at e;cases e
   |true=>
    rw[hc] at e
    simp only[cond_true,Option.some.injEq,Prod.mk.injEq,Bool.and_eq_true,decide_eq_true_eq] at e
    obtain⟨⟨⟨b1,b2⟩,b3⟩,e⟩:=e
    subst e
    obtain⟨cs,h1,h2,_⟩:=gE h Mk
    have hv:=dI h1 h2
    obtain⟨i,Gg,eQ⟩:=dz hc
    obtain⟨_,hu,uJ⟩:=cO hT Gg
    have rq:=n6 hu eQ
    rw[uJ] at rq
    refine b8 h (v:=.string (s.extract l.toNat hh.toNat)) (fun w2=> ?_) (Cu _)
    have hb:=yP (P:=P) (w:=w2) (sl:=false) (gT h hl) (gT h BN) b1 b2 b3 (Nat.le_refl _)
    simp[execOp,ho,hv,Instr.sliceAt,Instr.slice,run_underlying rq,hb]
  ·cases e
 ·rename_i av t m xs l dh Mk hl
  cases hc:Θ.is T (.sl t) with
  |false=>rw[hc] at e;cases e
  |true=>
   rw[hc] at e
   simp only[cond_true] at e
   obtain⟨i,Gg,eQ⟩:=dz hc
   obtain⟨_,hu,uJ⟩:=cO hT Gg
   obtain⟨u1,u2,_⟩:=jI hu eQ
   rw[uJ] at u1
   obtain⟨inf,q1,q2,_⟩:=gD hT u2
   obtain⟨cs,h1,h2,h3⟩:=gE h Mk
   obtain⟨X,c,hv,jS,WG⟩:=lO h1 h2
   have run:∀ (hh:Int),gf Θ S (xs.length:Int) hi=some hh→mx=none→0≤l→l≤hh→hh≤(xs.length:Int)→
     ∀ w2,(execOp a.eval o).run P w2=.ok (.value (.slice (if c=l.toNat then X else X.map (·.add (l.toNat*t.size))) (hh.toNat - l.toNat) (c - l.toNat))) w2:=by
    intro hh BN hmx b1 b2 b3 w2
    subst hmx
    have hb:=yP (P:=P) (w:=w2) (sl:=true) (gT h hl) (gT h BN) b1 b2 b3 WG
    simp[execOp,ho,hv,Instr.sliceAt,Instr.slice,run_underlying u1,hb,sizeOf,typeInfo,run_program,q1,q2]
   split at e
   ·rename_i _ hh BN
    split at e
    ·simp only[Option.some.injEq,Prod.mk.injEq,Bool.and_eq_true,decide_eq_true_eq] at e
     obtain⟨⟨⟨b1,b2⟩,b3⟩,e⟩:=e
     subst e
     have hK:=h3 rfl
     subst jS
     exact b8 h (run hh BN rfl b1 b2 b3) ⟨[_],by simp[an,isAgg],eX (.sl t) (Mq hK (by omega) (by omega))⟩
    ·rename_i b ex i _
     simp only[Option.some.injEq,Prod.mk.injEq,Bool.and_eq_true,decide_eq_true_eq] at e
     obtain⟨⟨⟨b1,b2⟩,b3⟩,e⟩:=e
     subst e
     have dG:S.at i=.v b ex:=by simpa[St.dn] using dh
     unfold St.rd at Mk
     rw[dh] at Mk
     cases ex with
     |cons _ _=>simp[St.qF] at Mk
     |nil=>
      simp only[St.qF,Option.some.injEq] at Mk
      subst Mk
      subst jS
      refine b8 h (run hh BN rfl b1 b2 b3) ⟨_,_,t,X,List.length xs,c,⟨⟨[],dG,fun q hq=>by simp at hq⟩,trivial,⟨_,rfl,rfl⟩,h1⟩,rfl,rfl,by omega,by omega,rfl⟩
    ·rename_i _ s p hm
     simp only[Option.some.injEq,Prod.mk.injEq,Bool.and_eq_true,decide_eq_true_eq] at e
     obtain⟨⟨⟨b1,b2⟩,b3⟩,e⟩:=e
     subst e
     obtain⟨r,bY,cL,hr,l9,hmm⟩:=bC h dh
     unfold St.rd at Mk
     rw[dh] at Mk
     simp only[St.qF] at Mk
     obtain⟨s7,_⟩:=cP h hr l9 Mk
     simp only at s7
     subst s7
     obtain rfl:=cC h1 hmm
     subst jS
     refine b8 h (run hh BN rfl b1 b2 b3) ⟨r,bY,t,X,List.length xs,c,hr,rfl,l9,by omega,by omega,rfl⟩
    ·cases e
   ·rename_i _ hh z ii BN QH
    split at e
    ·rename_i c' hx hz
     simp only[Option.some.injEq,Prod.mk.injEq,Bool.and_eq_true,decide_eq_true_eq] at e
     obtain⟨⟨⟨rfl,rfl⟩,rfl⟩,e⟩:=e
     subst e
     obtain⟨kz,hkz⟩:=gK h hz
     refine b8 h (v:=.slice X 0 0) (fun w2=> ?_) ⟨[.slice X 0 0],by simp[an,isAgg], ?_⟩
     ·have Mv:=gT h hl
      have hh':=gT h BN
      have hb:(Instr.sliceBounds true xs.length c (lo.map a.eval) (some (a.eval hx)) (some (.int kz 0))).run P w2=.ok (0,0,0) w2:=by
       have e0:∀ k y code,(Instr.sliceBound (.int k 0) y code).run P w2=.ok 0 w2:=fun k y code=>qK (by omega) (by omega)
       have hh2:∃ k,a.eval hx=.int k 0:=by
        rcases hh' with⟨hh',_⟩ |⟨k,hh'⟩
        ·simp at hh'
        ·exact⟨k,by simpa using hh'⟩
       obtain⟨k2,Cz⟩:=hh2
       unfold Instr.sliceBounds
       rcases Mv with⟨Mv,_⟩ |⟨k1,Mv⟩<;>rw[Mv,Cz]<;>simp[e0]
      simp[execOp,ho,hv,Instr.sliceAt,Instr.slice,run_underlying u1,hkz,hb,sizeOf,typeInfo,run_program,q1,q2]
     ·simp only[M]
      exact .inr (.inr ⟨_,_,_,X,0,rfl,rfl,Nat.le_refl _,fun h hh=>(by cases hh),.inl (by simp)⟩)
    ·cases e
   ·cases e
 ·cases e
end Go.Pv
namespace Go.Pv
set_option linter.unusedVariables false
set_option linter.unusedSimpArgs false
variable {P:Program} {w w':World} {A A' Wr:Nat→Prop} {H:Nat→Value} {tm o7:Nat→Value} {S S' S1:St} {σ:Nat→Option Nat} {w0:World} {W0 Z:Nat→Prop} {a:Act} {own:Nat→Prop} {v:Value} {Θ:cK} {dst:Option Nat}
theorem CA:∀ (p:Path) {t:Ty} {m:Md} {x:t.I} {cs:List Value} {ow:Nat→Prop} {hs:List Path} {b:TV},M w Wr H t m x cs ow hs→open_ p hs→valid p t x→a8 p t m x=some b→b.m.bQ=false→
  ∃ cL cG,aJ w p t cs=some cL∧(∀ g,cG g→ow g)∧M w Wr H b.t b.m b.x cL cG (s6 p hs)∧M w Wr H t m x cs (fun g=>ow g∧ ¬cG g) (hs++[p])
 |[],t,m,x,cs,ow,hs,b,h,ho,hv,hg,hk=>by
  simp only[a8,Option.some.injEq] at hg
  subst hg
  refine⟨cs,ow,rfl,fun _ h=>h,h, ?_⟩
  simp only at hk
  have iN:=eS t h
  cases t<;>simp only[M] at h ⊢<;>first
   |(rw[hk] at h;exact absurd h.1 (by simp))
   |(exact .inl ⟨by simp,hk,iN⟩)
   |(
     rcases h with⟨_,_,h⟩ |⟨fA,_⟩ |⟨T,tag,me,A,c,_,rfl,_⟩
     ·exact .inl ⟨by simp,hk,h⟩
     ·rw[hk] at fA;cases fA
     ·exact .inl ⟨by simp,hk,A,c,rfl⟩)
 | .deref::p,.ptr t,m,x,cs,ow,hs,b,h,ho,hv,hg,hk=>by
  simp only[a8] at hg
  simp only[valid] at hv
  simp only[M] at h
  rcases h with⟨hn,_⟩ |⟨fA,h⟩ |⟨T,tag,me,g,cur,rfl,rfl,ht,oQ,hw,h⟩
  ·exact absurd hn ho.not_nil
  ·rw[hJ p (nT fA) hg] at hk;cases hk
  ·have hlen:=(eS t h).1
   obtain⟨cL,cG,h1,h2,h3,h4⟩:=CA p h ho.sub hv hg hk
   have iD:0+t.size≤cur.size:=by rw[←hlen];simp
   refine⟨cL,cG, ?_,fun g hg=>(h2 g hg).1,h3, ?_⟩
   ·simp only[aJ,bz hw iD,Option.bind_some,List.drop_zero]
    rw[List.take_of_length_le (by omega)]
    exact h1
   ·simp only[M]
    exact .inr (.inr ⟨T,tag,me,g,cur,rfl,rfl,ht,⟨oQ,fun hx=>(h2 g hx).2 rfl⟩,hw,aN (a6.refl _ _) t (fun _ _ _=>rfl) (fun g' bX _=>⟨⟨bX.1.1,bX.2⟩,bX.1.2⟩) (fun q hq=>by
     rcases List.mem_append.1 hq with hq |hq
     ·exact c8.2 (List.mem_append_left _ (c8.1 hq))
     ·rw[List.mem_singleton.1 hq];exact c8.2 (List.mem_append_right _ (by simp))) h4⟩)
 | .fst::p,.pair a b',m,x,cs,ow,hs,b,h,ho,hv,hg,hk=>by
  simp only[a8] at hg
  simp only[valid] at hv
  simp only[M] at h
  rcases h with⟨hn,_⟩ |⟨fA,h⟩ |⟨ma,mb,c0,c1,s,rfl,rfl,h0,h1⟩
  ·exact absurd hn ho.not_nil
  ·rw[hJ p (Gc fA) hg] at hk;cases hk
  ·obtain⟨cL,cG,k1,k2,k3,k4⟩:=CA p h0 ho.sub hv hg hk
   refine⟨cL,cG,by simp only[aJ];rw[←(eS a h0).1,List.take_left];exact k1,fun g hg=>(k2 g hg).1,k3, ?_⟩
   simp only[M]
   refine .inr (.inr ⟨ma,mb,c0,c1,s,rfl,rfl,aN (a6.refl _ _) a (fun _ _ _=>rfl) (fun g' bX _=>⟨⟨bX.1.1,bX.2⟩,bX.1.2⟩) (fun q hq=> ?_) k4,aN (a6.refl _ _) b' (fun _ _ _=>rfl) (fun g' bX _=>⟨⟨bX.1,fun hx=>bX.2 (k2 g' hx).2⟩,bX.2⟩) (lF (fun q hq=>List.mem_append_left _ hq)) h1⟩)
   rcases List.mem_append.1 hq with hq |hq
   ·exact c8.2 (List.mem_append_left _ (c8.1 hq))
   ·rw[List.mem_singleton.1 hq];exact c8.2 (List.mem_append_right _ (by simp))
 | .snd::p,.pair a b',m,x,cs,ow,hs,b,h,ho,hv,hg,hk=>by
  simp only[a8] at hg
  simp only[valid] at hv
  simp only[M] at h
  rcases h with⟨hn,_⟩ |⟨fA,h⟩ |⟨ma,mb,c0,c1,s,rfl,rfl,h0,h1⟩
  ·exact absurd hn ho.not_nil
  ·rw[hJ p (Gd fA) hg] at hk;cases hk
  ·obtain⟨cL,cG,k1,k2,k3,k4⟩:=CA p h1 ho.sub hv hg hk
   refine⟨cL,cG,by simp only[aJ];rw[←(eS a h0).1,List.drop_left];exact k1,fun g hg=>(k2 g hg).1,k3, ?_⟩
   simp only[M]
   refine .inr (.inr ⟨ma,mb,c0,c1,s,rfl,rfl,aN (a6.refl _ _) a (fun _ _ _=>rfl) (fun g' bX _=>⟨⟨bX.1,fun hx=>(k2 g' hx).2 bX.2⟩,bX.2⟩) (lF (fun q hq=>List.mem_append_left _ hq)) h0,aN (a6.refl _ _) b' (fun _ _ _=>rfl) (fun g' bX _=>⟨⟨bX.1.1,bX.2⟩,bX.1.2⟩) (fun q hq=> ?_) k4⟩)
   rcases List.mem_append.1 hq with hq |hq
   ·exact c8.2 (List.mem_append_left _ (c8.1 hq))
   ·rw[List.mem_singleton.1 hq];exact c8.2 (List.mem_append_right _ (by simp))
 | .idx i::p,.sl t,m,xs,cs,ow,hs,b,h,ho,hv,hg,hk=>by
  simp only[a8] at hg
  simp only[valid] at hv
  obtain⟨hi,hv⟩:=hv
  have eY:List.getD xs i t.z=xs[i]:=Mu _ _ _ hi
  simp only[M] at h
  rcases h with⟨hn,_⟩ |⟨fA,h⟩ |⟨T,tag,me,X,c,rfl,rfl,hc,ht,h⟩
  ·exact absurd hn ho.not_nil
  ·rw[hJ p (nT fA) hg] at hk;cases hk
  ·rcases h with⟨rfl,_⟩ |⟨g,cur,τ,rfl,oQ,hw,iD,hm,h⟩
   ·simp at hi
   ·have hbound:0+i*t.size+t.size≤cur.size:=by
     have h1:=Nat.mul_le_mul_right t.size (show i+1≤xs.length from hi)
     have h2:=Nat.mul_le_mul_right t.size hc
     rw[Nat.add_mul,Nat.one_mul] at h1
     omega
    have hM:=h i hi
    rw[←eY] at hM
    obtain⟨cL,cG,h1,h2,h3,h4⟩:=CA p hM ho.sub hv hg hk
    refine⟨cL,cG,by simp only[aJ,bz hw hbound,Option.bind_some];rw[Nat.zero_add];exact h1,fun g hg=>(h2 g hg).1,h3, ?_⟩
    simp only[M]
    refine .inr (.inr ⟨T,tag,me,some ⟨g,0,none⟩,c,rfl,rfl,hc,ht,.inr ⟨g,cur,τ,rfl,⟨oQ,fun hx=>(h2 g hx).2.1 rfl⟩,hw,iD,hm,fun j hj=> ?_⟩⟩)
    by_cases kd:j=i
    ·subst kd
     rw[eY] at h4
     refine aN (a6.refl _ _) t (fun _ _ _=>rfl) (fun g' bX _=>⟨⟨bX.1.1,bX.2⟩,bX.1.2⟩) (fun q hq=> ?_) h4
     rcases List.mem_append.1 hq with hq |hq
     ·exact c8.2 (List.mem_append_left _ (c8.1 hq))
     ·rw[List.mem_singleton.1 hq];exact c8.2 (List.mem_append_right _ (by simp))
    ·exact aN (a6.refl _ _) t (fun _ _ _=>rfl) (fun g' bX _=>⟨⟨bX.1,fun hx=>kd (by rw[←bX.2.2];exact(h2 g' hx).2.2)⟩,bX.2⟩) (lF (fun q hq=>List.mem_append_left _ hq)) (h j hj)
theorem jt (a:Act) (i:Nat):a.put (some i) (bM a i)=a:=by
 unfold Act.put bM
 simp only
 have:a.tmps.setIfInBounds i (a.tmps.getD i undef)=a.tmps:=by
  apply Array.ext_getElem?
  intro j
  rw[Array.getElem?_setIfInBounds,Array.getD_eq_getD_getElem?]
  by_cases h:i=j
  ·subst h
   by_cases hl:i<a.tmps.size
   ·simp[hl]
   ·simp[hl]
  ·simp[h]
 rw[this]
def iw (σ:Nat→Option Nat) (q s:Nat) (g:Nat):Option Nat:=if σ g=some s then some q else σ g
theorem Mw {σ:Nat→Option Nat} {Z:Nat→Prop} {q s g:Nat}:Av (iw σ q s) Z g↔Av σ Z g:=by
 unfold Av iw
 by_cases h:σ g=some s
 ·rw[if_pos h,h];exact⟨fun _=>.inl ⟨s,rfl⟩,fun _=>.inl ⟨q,rfl⟩⟩
 ·rw[if_neg h]
structure fC (σ bK:Nat→Option Nat) (n:Nat) (ow:Nat→Prop):Prop where
 GF:∀ g,ow g→∃ i,i<n∧σ g=some i
 now:∀ g,ow g→∃ i,n≤i∧bK g=some i
 sub:∀ g i,bK g=some i→i<n→σ g=some i
 dom:∀ g,(∃ i,bK g=some i)↔∃ i,σ g=some i
 par:∀ g i,σ g=some i→n≤i→bK g=some i
theorem fC.none (σ:Nat→Option Nat) (n:Nat):fC σ σ n fun _=>False:=⟨fun _ h=>h.elim,fun _ h=>h.elim,fun _ _ h _=>h,fun _=>Iff.rfl,fun _ _ h _=>h⟩
theorem fC.iw (σ:Nat→Option Nat) {n s:Nat} (hs:s<n) {ow:Nat→Prop} (h:∀ g,ow g→σ g=some s):fC σ (iw σ n s) n ow:=by
 refine⟨fun g hg=>⟨s,hs,h g hg⟩,fun g hg=>⟨n,Nat.le_refl _,by unfold Go.Pv.iw;rw[if_pos (h g hg)]⟩,fun g i hg hi=> ?_,fun g=> ?_,fun g i hg hi=> ?_⟩
 ·unfold Go.Pv.iw at hg
  split at hg
  ·injection hg with hg;omega
  ·exact hg
 ·unfold Go.Pv.iw
  split
  ·rename_i h;rw[h];exact⟨fun _=>⟨s,rfl⟩,fun _=>⟨n,rfl⟩⟩
  ·exact Iff.rfl
 ·unfold Go.Pv.iw
  rw[if_neg (by rw[hg];intro e;injection e with e;omega)]
  exact hg
theorem fC.Av {σ bK:Nat→Option Nat} {n:Nat} {ow:Nat→Prop} (h:fC σ bK n ow) {Z:Nat→Prop} {g:Nat}:Av bK Z g↔Av σ Z g:=by
 unfold Go.Pv.Av
 rw[h.dom g]
theorem dQ {S:St} {i:Nat} (h:S.at i≠ .dead):i<S.length:=by
 rcases Nat.lt_or_ge i S.length with hl |hl
 ·exact hl
 ·refine absurd ?_ h
  unfold St.at
  rw[List.getD_eq_getElem?_getD,List.getElem?_eq_none hl]
  rfl
theorem bd.iw (h:bd σ w0 W0 Z H S a w) (i:Nat):bd (iw σ S.length i) w0 W0 Z H (S.put (some i) .dead) a w:=by
 have cc:a6 w w (Av σ Z) (Av (Go.Pv.iw σ S.length i) Z):=⟨fun _ _ _=>rfl,fun g _ hg=>Mw.1 hg⟩
 have hs:∀ g j,Go.Pv.iw σ S.length i g=some j→∃ k,σ g=some k:=fun g j hg=>by
  unfold Go.Pv.iw at hg
  split at hg
  ·exact⟨_,by assumption⟩
  ·exact⟨_,hg⟩
 have:=h.put (dst:=some i) (av:=.dead) (v:=bM a i) cc h.fr (fun g j hg=>by
  obtain⟨k,hk⟩:=hs g j hg
  exact⟨h.new g k hk,h.lt g k hk⟩) (fun g hg=>by unfold Go.Pv.iw;rw[(h.old g hg).1];simp) (fun j g _ hd hg=>⟨rfl,by unfold Go.Pv.iw;rw[if_neg (by rw[hg];intro e;exact hd e.symm)];exact hg⟩) (fun _ _ _ _=>trivial)
 rw[jt] at this
 exact this
theorem yQ (S:St) (d:Nat) (p:Path) (i:Nat):(S.cover d p).at i=match S.at i with
  | .ad t s q=>bif Nat.beq s d&&under p q then .dead else .ad t s q
  |a=>a:=yv S _ rfl i
theorem Ref.re {t:Ty} {s:Nat} {p:Path} {r:TV} {bY:List Value} (h:Ref tm S t s p r bY) (hk:∀ ex,S.at s=.v r ex→open_ p ex→∃ xL,S'.at s=.v r xL∧open_ p xL):Ref tm S' t s p r bY:=by
 obtain⟨⟨ex,h1,h2⟩,h3,h4,h5⟩:=h
 exact⟨hk ex h1 h2,h3,h4,h5⟩
theorem fJ {d:Nat} {p:Path} {r:TV} {ex:List Path} (hd:S.at d=.v r ex) (hS:∀ i r' xL,i≠d→S.at i=.v r' xL→S'.at i=.v r' xL) (hS':S'.at d=.v r (ex++[p])) {own:Nat→Prop} {av:AV} {v:Value}
  (hf:av.eG d=false) (hc:∀ t q,av=.ad t d q→under p q=false) (h:Holds w A H tm S own av v) (hnv:∀ b ex,av≠ .v b ex) (hnt:∀ l,av≠ .qZ l):Holds w A H tm S' own av v:=by
 have hre:∀ {t:Ty} {s:Nat} {q:Path} {r':TV} {bY:List Value},Ref tm S t s q r' bY→(s=d→under p q=false)→Ref tm S' t s q r' bY:=by
  intro t s q r' bY hr hu
  refine hr.re (fun My h1 h2=> ?_)
  by_cases uP:s=d
  ·subst uP
   rw[hd] at h1
   injection h1 with h1 PY
   subst h1 PY
   refine⟨ex++[p],hS',fun q' q8 s' r' e=> ?_⟩
   rcases List.mem_append.1 q8 with q8 |q8
   ·exact h2 q' q8 s' r' e
   ·rw[List.mem_singleton.1 q8] at e
    have:=hu rfl
    rw[e,kB] at this
    cases this
  ·exact⟨My,hS s r' My uP h1,h2⟩
 have agz:under p []=false:=by cases p<;>rfl
 cases av with
 |dead=>trivial
 |undef=>exact h
 |v b ex=>exact absurd rfl (hnv _ _)
 |qZ l=>exact absurd rfl (hnt _)
 |al t s q=>
  obtain⟨r',bY,cs,h1,h2,h3⟩:=h
  refine⟨r',bY,cs,hre h1 (fun e=> ?_),h2,h3⟩
  subst e
  cases q with
  |nil=>exact agz
  |cons _ _=>simp[AV.eG] at hf
 |ad t s q=>
  obtain⟨r',bY,g,off,h1,h2,h3⟩:=h
  exact⟨r',bY,g,off,hre h1 (fun e=>by subst e;exact hc _ _ rfl),h2,h3⟩
 |cut t s q lo hi=>
  obtain⟨r',bY,t',X,n,c,h1,h2⟩:=h
  refine⟨r',bY,t',X,n,c,hre h1 (fun e=> ?_),h2⟩
  subst e
  simp[AV.eG] at hf
 |nc f cq=>
  obtain⟨vs,h1,h2,h3⟩:=h
  refine⟨vs,h1,h2,fun j c hj=> ?_⟩
  obtain⟨u,k1,k2⟩:=h3 j c hj
  refine⟨u,k1, ?_⟩
  cases c with
  |kv b=>exact k2
  |pl t s q=>
   obtain⟨r',bY,cs,l1,l2,l3⟩:=k2
   refine⟨r',bY,cs,hre l1 (fun e=> ?_),l2,l3⟩
   subst e
   cases q with
   |nil=>exact agz
   |cons a' q'=>
    simp only[AV.eG] at hf
    have mo:=List.any_eq_false.1 hf _ (List.mem_of_getElem? hj)
    simp at mo
theorem ef (h:bd σ w0 W0 Z H S a w) {T:TypeId} {x:Operand} {av:AV} {b:TV} (ho:S.dn Θ T x=some av) (e:S.db x av=some (b,S1)):
  ∃ bK cs ow,bd bK w0 W0 Z H S1 a w∧an b.t (a.eval x) cs∧M w (Av σ Z) H b.t b.m b.x cs ow []∧fC σ bK S.length ow∧S1.length=S.length:=by
 have hh:=bC h ho
 cases av with
 |v b0 ex=>
  simp only[St.db] at e
  cases hk:b0.m.bQ with
  |true=>
   rw[hk] at e
   simp only[cond_true,Option.some.injEq,Prod.mk.injEq] at e
   obtain⟨rfl,rfl⟩:=e
   obtain⟨cs,h1,h2⟩:=hh
   exact⟨σ,cs,fun _=>False,h,h1,ng hk (eU _ hk h2),fC.none _ _,rfl⟩
  |false=>
   rw[hk] at e
   simp only[cond_false] at e
   split at e
   ·rename_i i
    simp only[Option.some.injEq,Prod.mk.injEq] at e
    obtain⟨rfl,rfl⟩:=e
    obtain⟨cs,h1,h2⟩:=hh
    refine⟨_,cs,_,h.iw i,h1,h2,fC.iw σ (dQ ?_) (fun g hg=> ?_),bB _ _ _⟩
    ·simp only[St.dn,Option.some.injEq] at ho
     rw[ho]
     exact fun e=>by cases e
    ·obtain⟨j,hj,hg⟩:=hg
     injection hj with hj
     subst hj
     exact hg
   ·rename_i hx
    simp only[Option.some.injEq,Prod.mk.injEq] at e
    obtain⟨rfl,rfl⟩:=e
    obtain⟨cs,h1,h2⟩:=hh
    refine⟨σ,cs,fun _=>False,h,h1,aN (a6.refl _ _) _ (fun _ _ _=>rfl) (fun g hg _=> ?_) (fun _ h=>h) h2,fC.none _ _,rfl⟩
    obtain⟨j,hj,_⟩:=hg
    exact hx j hj
   ·cases e
 |al t s p=>
  simp only[St.db] at e
  obtain⟨r,bY,cs,hr,hc,hm⟩:=hh
  split at e
  ·rename_i b' hb
   cases hk:b'.m.bQ with
   |true=>
    rw[hk] at e
    simp only[cond_true,Option.some.injEq,Prod.mk.injEq] at e
    obtain⟨rfl,rfl⟩:=e
    obtain⟨s7,cG,_,hM⟩:=cP h hr hc hb
    exact⟨σ,cs,fun _=>False,h,by rw[s7];exact hm,ng hk (eU _ hk hM),fC.none _ _,rfl⟩
   |false=>
    rw[hk] at e
    simp only[cond_false] at e
    cases hp:p with
    |nil=>
     subst hp
     simp only[Option.some.injEq,Prod.mk.injEq] at e
     obtain⟨rfl,rfl⟩:=e
     obtain⟨s7,cG,pf,hM⟩:=cP h hr hc hb
     obtain⟨Ku,QI,_⟩:=hr.at_
     exact⟨_,cs,cG,h.iw s,by rw[s7];exact hm,hM,fC.iw σ (dQ (by rw[QI];exact fun e=>by cases e)) pf,bB _ _ _⟩
    |cons Dz pp=>
     rw[hp] at e
     obtain⟨ex,b2,cL,ow0,j1,j2,j3,j4,hM,j5,j6,j7⟩:=fm h hr
     rw[j1] at e
     simp only[Option.some.injEq,Prod.mk.injEq] at e
     rw[←hp] at e
     obtain⟨rfl,rfl⟩:=e
     obtain⟨r3,ex3,q1,q2,q3⟩:=oa hb
     rw[j1] at q1
     injection q1 with q1 yM
     subst q1 yM
     rw[j3] at q3
     injection q3 with q3
     subst q3
     obtain⟨QJ,cG,k1,k2,k3,k4⟩:=CA p hM j2 hr.val j3 hk
     rw[hc] at k1
     injection k1 with k1
     subst k1
     rw[rp q2] at k3
     -- the ownership without what is taken
     have QK:s<S.length:=dQ (by rw[j1];exact fun e=>by cases e)
     let bK:Nat→Option Nat:=fun g=>open Classical in if cG g then some S.length else σ g
     have yR:∀ g i,bK g=some i→∃ k,σ g=some k:=by
      intro g i hg
      simp only[bK] at hg
      split at hg
      ·exact⟨s,k2 g (by assumption)⟩
      ·exact⟨i,hg⟩
     have yS:∀ g i,σ g=some i→ ¬cG g→bK g=some i:=by
      intro g i hg hn
      simp only[bK,if_neg hn,hg]
     have cc:a6 w w (Av σ Z) (Av bK Z):=⟨fun _ _ _=>rfl,fun g _ hg=>by
      rcases hg with⟨i,hg⟩ |hg
      ·exact .inl (yR g i hg)
      ·exact .inr hg⟩
     have QL:fC σ bK S.length cG:=by
      refine⟨fun g hg=>⟨s,QK,k2 g hg⟩,fun g hg=>⟨_,Nat.le_refl _,by simp only[bK,if_pos hg]⟩,fun g i hg hi=> ?_,fun g=>⟨fun⟨i,hg⟩=>yR g i hg,fun⟨i,hg⟩=> ?_⟩,fun g i hg hi=>yS g i hg (fun hx=> ?_)⟩
      ·simp only[bK] at hg
       split at hg
       ·injection hg with hg;omega
       ·exact hg
      ·simp only[bK]
       split
       ·exact⟨_,rfl⟩
       ·exact⟨i,hg⟩
      ·have:=k2 g hx
       rw[hg] at this
       injection this with this
       omega
     refine⟨bK,cs,cG, ?_,by rw[j4];exact hm,k3,QL,by simp[St.weaken,St.cover]⟩
     have hlen:((S.weaken s).cover s p).length=S.length:=by simp[St.weaken,St.cover]
     have BH:s<S.length:=by
      rcases Nat.lt_or_ge s S.length with hl |hl
      ·exact hl
      ·unfold St.at at j1
       rw[List.getD_eq_getElem?_getD,List.getElem?_eq_none hl] at j1
       cases j1
     have u7:St.at (((S.weaken s).cover s p).set s (.v r (ex++[p]))) s=.v r (ex++[p]):=by rw[cr,if_pos ⟨rfl,by rw[hlen];exact BH⟩]
     have xx:∀ i,i≠s→St.at (((S.weaken s).cover s p).set s (.v r (ex++[p]))) i=(match (bif (S.at i).eG s then AV.dead else S.at i) with
       | .ad t s' q=>bif Nat.beq s' s&&under p q then .dead else .ad t s' q
       |a=>a):=by
      intro i hi
      rw[cr,if_neg (fun e=>hi e.1),yQ,iJ]
     refine⟨by simp only[List.length_set,hlen];exact h.len,h.defers,h.fr,fun g i hg=>(yR g i hg).elim fun k hk=>h.new g k hk,fun g i hg=>(yR g i hg).elim fun k hk=>h.lt g k hk,fun g hg=>⟨?_,(h.old g hg).2⟩,fun i=> ?_⟩
     ·simp only[bK]
      split
      ·rename_i hx
       have:=k2 g hx
       rw[(h.old g hg).1] at this
       cases this
      ·exact(h.old g hg).1
     ·by_cases QM:i=s
      ·subst QM
       rw[u7]
       exact⟨bY,hr.J5,aN cc _ (fun _ _ _=>rfl) (fun g hg _=>yS g _ hg.1 hg.2) (fun _ h=>h) k4⟩
      ·rw[xx i QM]
       cases qH:(S.at i).eG s with
       |true=>trivial
       |false=>
        simp only[cond_false]
        have hi:=h.holds i
        have base:Holds w (Av bK Z) H (bM a) S (fun g=>bK g=some i) (S.at i) (bM a i):=
         hi.kept cc (fun g hg _=>⟨rfl,yS g i hg (fun hx=>QM (by have:=k2 g hx;rw[hg] at this;injection this))⟩) (fun s' _=>⟨fun _ _ h=>h,rfl,_,h.holds s',fun _ _ _=>rfl⟩)
        have WJ:∀ j r' xL,j≠s→S.at j=.v r' xL→St.at (((S.weaken s).cover s p).set s (.v r (ex++[p]))) j=.v r' xL:=by
         intro j r' xL hj hv
         rw[xx j hj,hv]
         simp[AV.eG]
        cases iC:S.at i with
        |v b3 ex3=>
         rw[iC] at base
         obtain⟨c3,l1,l2⟩:=base
         exact⟨c3,l1,l2⟩
        |qZ l=>
         rw[iC] at base
         exact base
        |ad t' s' q=>
         rw[iC] at base qH
         simp only
         cases aa0:(Nat.beq s' s&&under p q) with
         |true=>trivial
         |false=>
          simp only[cond_false]
          refine fJ j1 WJ u7 qH (fun t2 q2 e2=> ?_) base (fun _ _ e=>by cases e) (fun _ e=>by cases e)
          injection e2 with _ e3 e4
          subst e3 e4
          simpa using aa0
        |dead=>trivial
        |undef=>rw[iC] at base;exact base
        |al t' s' q=>
         rw[iC] at base qH
         exact fJ j1 WJ u7 qH (fun t2 q2 e2=>by cases e2) base (fun _ _ e=>by cases e) (fun _ e=>by cases e)
        |cut t' s' q lo Gg=>
         rw[iC] at base qH
         exact fJ j1 WJ u7 qH (fun t2 q2 e2=>by cases e2) base (fun _ _ e=>by cases e) (fun _ e=>by cases e)
        |nc f cq=>
         rw[iC] at base qH
         exact fJ j1 WJ u7 qH (fun t2 q2 e2=>by cases e2) base (fun _ _ e=>by cases e) (fun _ e=>by cases e)
  ·cases e
 |cut t s p lo hi=>
  cases p with
  |cons _ _=>simp[St.db] at e
  |nil=>
   simp only[St.db] at e
   obtain⟨r,bY,t',X,n,c,hr,rfl,hc,Qj,BN,hv⟩:=hh
   split at e
   ·rename_i t2 T2 tag me xs hb
    cases aa1:Nat.beq lo 0 with
    |false=>rw[aa1] at e;cases e
    |true=>
     rw[aa1] at e
     have WK:=Nat.eq_of_beq_eq_true aa1
     subst WK
     simp only[cond_true,Option.some.injEq,Prod.mk.injEq] at e
     obtain⟨rfl,rfl⟩:=e
     obtain⟨s7,cG,pf,hM⟩:=cP h hr hc hb
     injection s7 with s7
     subst s7
     simp only[M] at hM
     rcases hM with⟨hn,_⟩ |⟨hk,_⟩ |⟨T3,ajV,me3,X3,c3,e3,e4,hcc,WI,hM⟩
     ·simp at hn
     ·simp[Md.bQ] at hk
     ·injection e3 with e3 e3' ajb
      subst e3 e3' ajb
      simp only[List.cons.injEq,Value.slice.injEq,and_true] at e4
      obtain⟨rfl,hn,rfl⟩:=e4
      have hv':a.eval x=.slice X hi c:=by
       rw[hv]
       have:(if c=0 then X else X.map fun x=>x.add (0*Ty.size t2))=X:=by
        split
        ·rfl
        ·cases X with
         |none=>rfl
         |some ad=>simp[Addr.add]
       rw[this]
       simp
      have hlen:(List.take hi xs).length=hi:=by rw[List.length_take];omega
      obtain⟨Ku,QI,_⟩:=hr.at_
      refine⟨_,[.slice X hi c],cG,h.iw s,by simp[an,isAgg,hv'], ?_,fC.iw σ (dQ (by rw[QI];exact fun e=>by cases e)) pf,bB _ _ _⟩
      simp only[M]
      refine .inr (.inr ⟨T2,none,me,X,c,rfl,by rw[hlen],by rw[hlen];omega,fun h hh=>(by cases hh), ?_⟩)
      rcases hM with⟨rfl,rfl⟩ |⟨g,cur,τ,rfl,hg,hw,iD,hm,hj⟩
      ·left
       simp
      ·right
       refine⟨g,cur,τ,rfl,hg,hw,iD,hm,fun j JN=> ?_⟩
       rw[hlen] at JN
       have:=hj j (by omega)
       rw[List.getElem_take]
       exact this
   ·cases e
 |_=>simp[St.db] at e
noncomputable def fg (σ:Nat→Option Nat) (dst:Option Nat) (ow:Nat→Prop) (g:Nat):Option Nat:=open Classical in if ow g then dst else release σ dst g
theorem bd.Mz (h:bd σ w0 W0 Z H S a w) {av:AV} {ow:Nat→Prop} (iD:w.heap.size≤w'.heap.size) (pq:∀ g,g<w.heap.size→(∀ i,S.length≤i→σ g≠some i)→w'.heap[g]? =w.heap[g]?) (qH:Fr w0 W0 w')
  (pf:∀ g,ow g→g<w'.heap.size∧((∃ i,S.length≤i∧σ g=some i)∨w.heap.size≤g))
  (hH:∀ d,dst=some d→(∀ g,ow g→fg σ dst ow g=some d)→(∀ g,Av (fg σ dst ow) Z g→Av σ Z g∨ow g)→Holds w' (Av (fg σ dst ow) Z) H (bM (a.put dst v)) (S.put dst av) (fun g=>fg σ dst ow g=some d) av v):
  bd (fg σ dst ow) w0 W0 Z H (S.put dst av) (a.put dst v) w':=by
 have hw0:w0.heap.size≤w.heap.size:=h.fr.size
 have iC:∀ g i,fg σ dst ow g=some i→(ow g∧dst=some i)∨(¬ow g∧σ g=some i∧dst≠some i):=fun g i hg=>by
  unfold fg at hg
  split at hg
  ·exact .inl ⟨by assumption,hg⟩
  ·exact .inr ⟨by assumption,dO hg⟩
 have hAv:∀ g,Av (fg σ dst ow) Z g→Av σ Z g∨ow g:=fun g hg=>by
  rcases hg with⟨i,hg⟩ |hg
  ·rcases iC g i hg with⟨h1,_⟩ |⟨_,h1,_⟩
   ·exact .inr h1
   ·exact .inl (.inl ⟨i,h1⟩)
  ·exact .inl (.inr hg)
 have cc:a6 w w' (Av σ Z) (Av (fg σ dst ow) Z):=⟨fun g hn hg=>pq g hg (fun i _ hi=>hn (.inl ⟨i,hi⟩)),fun g hg hx=>by
  rcases hAv g hx with h1 |h1
  ·exact h1
  ·rcases(pf g h1).2 with⟨i,_,hi⟩ |h2
   ·exact .inl ⟨i,hi⟩
   ·omega⟩
 refine h.put cc qH (fun g i hg=> ?_) (fun g hg=> ?_) (fun i g hi hd hg=>⟨pq g (h.lt g i hg) (fun j hj nO=>by rw[hg] at nO;injection nO with nO;omega), ?_⟩) (fun d hd hl _=>hH d hd (fun g hg=>by unfold fg;rw[if_pos hg];exact hd) hAv)
 ·rcases iC g i hg with⟨h1,_⟩ |⟨_,h1,_⟩
  ·rcases pf g h1 with⟨h2,⟨j,_,hj⟩ |h3⟩
   ·exact⟨h.new g j hj,h2⟩
   ·exact⟨.inl (by omega),h2⟩
  ·exact⟨h.new g i h1,by have:=h.lt g i h1;omega⟩
 ·obtain⟨h1,h2⟩:=h.old g hg
  unfold fg
  split
  ·rename_i hx
   rcases(pf g hx).2 with⟨i,_,hi⟩ |h3
   ·rw[h1] at hi;cases hi
   ·omega
  ·unfold release
   split
   ·rfl
   ·exact h1
 ·have hn: ¬ow g:=fun hx=>by
   rcases(pf g hx).2 with⟨j,hj,nO⟩ |h3
   ·rw[hg] at nO;injection nO with nO;omega
   ·have:=h.lt g i hg;omega
  unfold fg
  rw[if_neg hn]
  exact kg hd hg
theorem bd.Yf (h:bd σ w0 W0 Z H S a w) {b:TV} {cs:List Value} {ow:Nat→Prop} {A':Nat→Prop} (iD:w.heap.size≤w'.heap.size) (pq:∀ g,g<w.heap.size→(∀ i,S.length≤i→σ g≠some i)→w'.heap[g]? =w.heap[g]?) (qH:Fr w0 W0 w')
  (pf:∀ g,ow g→g<w'.heap.size∧((∃ i,S.length≤i∧σ g=some i)∨w.heap.size≤g)) (hA:∀ g,g<w'.heap.size→Av σ Z g∨ow g→A' g)
  (hm:an b.t v cs) (hM:M w' A' H b.t b.m b.x cs ow []):
  bd (fg σ dst ow) w0 W0 Z H (S.put dst (.v b [])) (a.put dst v) w':=
 h.Mz iD pq qH pf fun d _ h1 h2=>⟨cs,hm,aN ⟨fun _ _ _=>rfl,fun g hg hx=>hA g hg (h2 g hx)⟩ _ (fun _ _ _=>rfl) (fun g hg _=>h1 g hg) (fun _ h=>h) hM⟩
theorem bd.GG (h:bd σ w0 W0 Z H S a w) {b:TV} {cs:List Value} {ow:Nat→Prop} {A':Nat→Prop} (pq:∀ g,g<w.heap.size→w'.heap[g]? =w.heap[g]?) (qH:Fr w0 W0 w')
  (pf:∀ g,ow g→g<w'.heap.size∧((∃ i,S.length≤i∧σ g=some i)∨w.heap.size≤g)) (hA:∀ g,g<w'.heap.size→Av σ Z g∨ow g→A' g)
  (hm:an b.t v cs) (hM:M w' A' H b.t b.m b.x cs ow []):
  bd (fg σ dst ow) w0 W0 Z H (S.put dst (.v b [])) (a.put dst v) w':=by
 refine h.Yf ?_ (fun g hg _=>pq g hg) qH pf hA hm hM
 rcases Nat.eq_zero_or_pos w.heap.size with h0 |h0
 ·omega
 ·have:=pq (w.heap.size - 1) (by omega)
  rw[Array.getElem?_eq_getElem (show w.heap.size - 1<w.heap.size by omega)] at this
  have:=bO this
  omega
end Go.Pv
namespace Go.Pv
set_option linter.unusedVariables false
set_option linter.unusedSimpArgs false
variable {P:Program} {w w':World} {A A' Wr:Nat→Prop} {H:Nat→Value} {tm o7:Nat→Value} {S S' S1:St} {σ bK:Nat→Option Nat} {w0:World} {W0 Z:Nat→Prop} {a:Act} {own:Nat→Prop} {v:Value} {Θ:cK} {dst:Option Nat}
theorem hZ:∀ (t:Ty),jj t=true→K w A t t.z (zc t)
 | .int k,_=>by simp[K,zc,Ty.z]
 | .bool,_=>by simp[K,zc,Ty.z]
 | .str,_=>by simp[K,zc,Ty.z]
 | .unit,_=>by simp[K,zc]
 | .sl t,_=>by simp only[K,zc,Ty.z];exact⟨none,0,rfl,Nat.le_refl _,fun h=>absurd h (Nat.lt_irrefl _)⟩
 | .pair a b,h=>by
  simp only[jj,Bool.and_eq_true] at h
  simp only[K,zc,Ty.z]
  exact⟨_,_,rfl,hZ a h.1,hZ b h.2⟩
 | .ptr t,h=>by simp[jj] at h
 | .arr n t,h=>by simp[jj] at h
theorem DE {t:Ty} {x:t.I} {m:Md} {cs:List Value} {ow:Nat→Prop} (h:M w A H t m x cs (fun _=>False) []):M w A H t m x cs ow []:=aN (a6.refl _ _) t (fun _ _ _=>rfl) (fun _ h _=>h.elim) (fun _ h=>h) h
theorem yT:∀ (t:Ty) {m:Md},rO t m=true→M w A H t m t.z (zc t) (fun _=>False) []
 | .pair a b,.p ma mb,h=>by
  simp only[rO,Bool.or_eq_true,Bool.and_eq_true] at h
  rcases h with h |h
  ·simp only[M]
   exact .inr (.inr ⟨ma,mb,zc a,zc b,fun _=>True,rfl,rfl,DE (yT a h.1),DE (yT b h.2)⟩)
  ·exact ng (by simp[Md.bQ,h.1.1.1,h.1.1.2]) (by simp only[K,zc,Ty.z];exact⟨_,_,rfl,hZ a h.1.2,hZ b h.2⟩)
 | .sl t,.o T none me,_=>by
  simp only[M]
  exact .inr (.inr ⟨T,none,me,none,0,rfl,rfl,Nat.le_refl _,fun h hh=>(by cases hh),.inl ⟨rfl,rfl⟩⟩)
 | .pair a b,.k,h=>by
  simp only[rO,Bool.and_eq_true] at h
  exact ng h.1 (hZ _ h.2)
 | .pair a b,.o ..,h=>by simp[rO,Md.bQ] at h
 | .sl t,.k,h=>by
  simp only[rO,Bool.and_eq_true] at h
  exact ng h.1 (hZ _ h.2)
 | .sl t,.o _ (some _) _,h=>by simp[rO,Md.bQ] at h
 | .sl t,.p a b,h=>by
  simp only[rO,Bool.and_eq_true] at h
  exact ng h.1 (hZ _ h.2)
 | .int k,m,h=>by
  have h:(m.bQ&&jj (.int k))=true:=by cases m<;>exact h
  simp only[Bool.and_eq_true] at h
  exact ng h.1 (hZ _ h.2)
 | .bool,m,h=>by
  have h:(m.bQ&&jj .bool)=true:=by cases m<;>exact h
  simp only[Bool.and_eq_true] at h
  exact ng h.1 (hZ _ h.2)
 | .str,m,h=>by
  have h:(m.bQ&&jj .str)=true:=by cases m<;>exact h
  simp only[Bool.and_eq_true] at h
  exact ng h.1 (hZ _ h.2)
 | .unit,m,h=>by
  have h:(m.bQ&&jj .unit)=true:=by cases m<;>exact h
  simp only[Bool.and_eq_true] at h
  exact ng h.1 (hZ _ h.2)
 | .ptr t,m,h=>by
  have h:(m.bQ&&jj (.ptr t))=true:=by cases m<;>exact h
  simp[jj] at h
 | .arr n t,m,h=>by
  have h:(m.bQ&&jj (.arr n t))=true:=by cases m<;>exact h
  simp[jj] at h
theorem u9 (hT:cM P Θ=true) {T:TypeId} {z:TV} (h:pj Θ T=some z):
  ∃ i inf zv,Θ.find T=some i∧i.ty=z.t∧z.x=z.t.z∧rO z.t z.m=true∧P.info? T=some inf∧inf.size=z.t.size∧inf.zero=some zv∧an z.t zv (zc z.t)∧inf.bytes≤32*z.t.size∧inf.bytes≤256:=by
 unfold pj at h
 split at h
 ·rename_i i hi
  cases hz:rO i.ty (Ga Θ 9 T) with
  |false=>rw[hz] at h;cases h
  |true=>
   rw[hz] at h
   simp only[cond_true,Option.some.injEq] at h
   subst h
   obtain⟨⟨_,inf,zv,h1,h2,h3,h4,h5,h6,h7⟩,_,rfl⟩:=cO hT hi
   exact⟨i,inf,zv,hi,rfl,rfl,hz,h1,h2,h6,h7,h3,h4⟩
 ·cases h
theorem Fr.alloc (h:Fr w0 W0 w) (o:Obj):Fr w0 W0 (w.alloc o):=by
 refine⟨h.os,h.tape,h.output, ?_,fun g hg hn=> ?_⟩
 ·have:=h.size
  simp only[World.alloc,Array.size_push];omega
 ·rw[heap_alloc_old w o g (by have:=h.size;omega)]
  exact h.block g hg hn
theorem gL {t:Ty} {v:Value} {cs:List Value} (h:an t v cs) (h1:∀ u∈cs,u.oneCell'=true):v.cells=cs.toArray:=by
 have:=Dr h h1
 rw[←this]
theorem GH {t:Ty} {m:Md} {x:t.I} {cs:List Value} {ow:Nat→Prop} (T:TypeId) (hM:M w A H t m x cs ow []) (cI:∀ g,ow g→g<w.heap.size):
  M (w.alloc (.cells cs.toArray T)) (fun g=>A g∨w.heap.size≤g) H (.ptr t) (.o T none m) x [.pointer (some ⟨w.heap.size,0,none⟩)] (fun g=>ow g∨g=w.heap.size) []:=by
 simp only[M]
 refine .inr (.inr ⟨T,none,m,w.heap.size,cs.toArray,rfl,rfl,fun h hh=>(by cases hh),.inr rfl,heap_alloc_new w _, ?_⟩)
 refine aN (w:=w) ⟨fun g _ hg=>heap_alloc_old w _ g hg,fun g hg hx=> ?_⟩ t (fun g hg hl=>heap_alloc_old w _ g hl) (fun g hg hl=>⟨.inl hg,by omega⟩) (fun _ h=>(by simp at h)) hM
 rcases hx with hx |hx
 ·exact hx
 ·omega
def vQ (P:Program) (w0:World) (W0 Z:Nat→Prop) (H:Nat→Value) (S':St) (a:Act) (dst:Option Nat) (w:World) (s:Sem Next):Prop:=
 ∃ w' v,s.run P w=.ok (.value v) w'∧Ext w w'∧Rel w0 W0 Z H S' (a.put dst v) w'
theorem vQ.goes {s:Sem Next} (h:vQ P w0 W0 Z H S' a dst w s):BR P w0 W0 Z H S' a dst w s:=by
 obtain⟨w',v,h1,_,h2⟩:=h
 exact⟨w',v,.inl h1,h2⟩
theorem gR.xy {s:Sem Next} (h:gR P w0 W0 Z H S' a dst w s):vQ P w0 W0 Z H S' a dst w s:=by
 obtain⟨v,h1,h2⟩:=h
 exact⟨w,v,h1 w (Ext.refl w),Ext.refl w,h2⟩
theorem QN (hT:cM P Θ=true) (h:bd σ w0 W0 Z H S a w) {hn:Hn} {o:Oper} {T:TypeId} (ho:o.op=.alloc T) (e:nR Θ hn S o.dst T=some (true,S')):vQ P w0 W0 Z H S' a o.dst w (execOp a.eval o):=by
 unfold nR at e
 split at e
 ·rename_i z hz
  cases hf:rO z.t (hn.find o.dst z.m) with
  |false=>rw[hf] at e;cases e
  |true=>
   rw[hf] at e
   simp only[cond_true,Option.some.injEq,Prod.mk.injEq,true_and] at e
   subst e
   obtain⟨i,inf,zv,_,_,_,_,h1,h2,h3,h4,_⟩:=u9 hT hz
   have hM:M w (Av σ Z) H z.t (hn.find o.dst z.m) z.t.z (zc z.t) (fun _=>False) []:=yT z.t hf
   have aa2:=GH T hM (fun _ h=>h.elim)
   refine⟨w.alloc (.cells (zc z.t).toArray T),.pointer (some ⟨w.heap.size,0,none⟩), ?_,fun g hg=>heap_alloc_old w _ g hg,_,h.GG (b:=⟨.ptr z.t,.o T none (hn.find o.dst z.m),z.t.z⟩) (cs:=[.pointer (some ⟨w.heap.size,0,none⟩)]) (fun g hg=>heap_alloc_old w _ g hg) (h.fr.alloc _) (fun g hg=> ?_) (fun g hg hx=> ?_) (by simp[an,isAgg]) aa2⟩
   ·simp[execOp,ho,Instr.alloc,zeroValue,typeInfo,h1,h3,newVar,newRow,gL h4 (eS _ hM).2]
   ·rcases hg with hg |rfl
    ·exact hg.elim
    ·exact⟨by simp only[World.alloc,Array.size_push];omega,.inr (Nat.le_refl _)⟩
   ·rcases hx with hx |hx |rfl
    ·exact .inl hx
    ·exact hx.elim
    ·exact .inr (Nat.le_refl _)
 ·cases e
theorem nw {b:TV} {cs:List Value} {ow:Nat→Prop} {s:Sem Next} {n:Nat} (h:bd bK w0 W0 Z H S1 a w) (hk:fC σ bK n ow) (hn:S1.length=n) (hr:∀ w2,Ext w w2→s.run P w2=.ok (.value v) w2) (hm:an b.t v cs) (hM:M w (Av σ Z) H b.t b.m b.x cs ow []):
  gR P w0 W0 Z H (S1.put dst (.v b [])) a dst w s:=by
 refine⟨v,hr,_,h.GG (b:=b) (cs:=cs) (fun _ _=>rfl) h.fr (fun g hg=> ?_) (fun g hg hx=> ?_) hm hM⟩
 ·obtain⟨i,hi,bX⟩:=hk.now g hg
  exact⟨h.lt g i bX,.inl ⟨i,by omega,bX⟩⟩
 ·rcases hx with hx |hx
  ·exact hk.Av.1 hx
  ·obtain⟨i,hi,bX⟩:=hk.GF g hx
   exact .inl ⟨i,bX⟩
theorem aa3 (hT:cM P Θ=true) (h:bd σ w0 W0 Z H S a w) {o:Oper} {T:TypeId} {x:Operand} (ho:o.op=.box T x) (e:P6 Θ S o.dst T x=some (true,S')):vQ P w0 W0 Z H S' a o.dst w (execOp a.eval o):=by
 unfold P6 St.take at e
 split at e
 ·rename_i b S1 hb
  split at hb
  ·rename_i av dh
   obtain⟨bK,cs,ow,h1,hm,hM,hk,hn⟩:=ef h dh hb
   cases hc:Θ.is T b.t with
   |false=>rw[hc] at e;cases e
   |true=>
    rw[hc] at e
    simp only[cond_true,Option.some.injEq,Prod.mk.injEq,true_and] at e
    subst e
    have cI:∀ g,ow g→g<w.heap.size:=fun g hg=>by
     obtain⟨i,_,hi⟩:=hk.GF g hg
     exact h.lt g i hi
    have aa2:=GH T hM cI
    refine⟨w.alloc (.cells cs.toArray T),.pointer (some ⟨w.heap.size,0,none⟩), ?_,fun g hg=>heap_alloc_old w _ g hg,_,h1.GG (b:=⟨.ptr b.t,.o T none b.m,b.x⟩) (cs:=[.pointer (some ⟨w.heap.size,0,none⟩)]) (fun g hg=>heap_alloc_old w _ g hg) (h1.fr.alloc _) (fun g hg=> ?_) (fun g hg hx=> ?_) (by simp[an,isAgg]) aa2⟩
    ·simp[execOp,ho,Instr.box,newVar,newRow,gL hm (eS _ hM).2]
    ·rcases hg with hg |rfl
     ·obtain⟨i,hi,bX⟩:=hk.now g hg
      have:=cI g hg
      exact⟨by simp only[World.alloc,Array.size_push];omega,.inl ⟨i,by omega,bX⟩⟩
     ·exact⟨by simp only[World.alloc,Array.size_push];omega,.inr (Nat.le_refl _)⟩
    ·rcases hx with hx |hx |rfl
     ·exact .inl (hk.Av.1 hx)
     ·obtain⟨i,_,hi⟩:=hk.GF g hx
      exact .inl (.inl ⟨i,hi⟩)
     ·exact .inr (Nat.le_refl _)
  ·cases hb
 ·cases e
theorem gR.still {s:Sem Next} (hr:∀ w2,s.run P w2=.ok (.value v) w2) (h:gR P w0 W0 Z H S' a dst w s):jR P w0 W0 Z H S' a dst w s:=by
 obtain⟨v',h1,h2⟩:=h
 have:=(h1 w (Ext.refl w)).symm.trans (hr w)
 injection this with this
 injection this with this
 subst this
 exact⟨_,hr,h2⟩
end Go.Pv
namespace Go.Pv
set_option linter.unusedVariables false
set_option linter.unusedSimpArgs false
variable {P:Program} {w w':World} {A A' Wr:Nat→Prop} {H:Nat→Value} {tm o7:Nat→Value} {S S' S1:St} {σ bK:Nat→Option Nat} {w0:World} {W0 Z:Nat→Prop} {a:Act} {own:Nat→Prop} {v:Value} {Θ:cK} {dst:Option Nat}
theorem qL:∀ (p:Path) {t:Ty} {m:Md} {x:t.I} {b b0:TV} {r:Md×t.I},fD b p t m x=some r→a8 p t m x=some b0→b.t=b0.t
 |[],t,m,x,b,b0,r,h,hg=>by
  simp only[a8,Option.some.injEq] at hg
  subst hg
  simp only[fD] at h
  split at h
  ·assumption
  ·cases h
 | .deref::p,.ptr t,.o T tag me,x,b,b0,r,h,hg=>by
  simp only[fD] at h
  simp only[a8] at hg
  split at h
  ·rename_i r1 h1
   exact qL p h1 hg
  ·cases h
 | .fst::p,.pair t u,m,x,b,b0,r,h,hg=>by
  simp only[fD] at h
  simp only[a8] at hg
  split at h
  ·rename_i r1 h1
   exact qL p h1 hg
  ·cases h
 | .snd::p,.pair t u,m,x,b,b0,r,h,hg=>by
  simp only[fD] at h
  simp only[a8] at hg
  split at h
  ·rename_i r1 h1
   exact qL p h1 hg
  ·cases h
 | .idx i::p,.sl t,.o T tag me,xs,b,b0,r,h,hg=>by
  obtain⟨r1,h1,_⟩:=yj h
  simp only[a8] at hg
  exact qL p h1 hg
theorem h9:∀ (q:Path) {t:Ty} {x y:t.I},aK q=true→valid q t x→valid q t y
 |[],_,_,_,_,_=>trivial
 | .fst::q,.pair a b,x,y,h,hv=>by
  simp only[valid] at hv ⊢
  exact h9 q (by simpa[aK] using h) hv
 | .snd::q,.pair a b,x,y,h,hv=>by
  simp only[valid] at hv ⊢
  exact h9 q (by simpa[aK] using h) hv
theorem fo:∀ (q:Path),depth q=0→aK q=true
 |[],_=>rfl
 | .fst::q,h=>by simp only[aK];exact fo q (by simpa[depth] using h)
 | .snd::q,h=>by simp only[aK];exact fo q (by simpa[depth] using h)
 | .deref::q,h=>by simp[depth] at h
 | .idx i::q,h=>by simp[depth] at h
theorem dJ:∀ (q:Path) {t:Ty} {cs cL:List Value} {l:Option (Nat×Nat)},aK q=true→addrAt w q t cs l=addrAt w' q t cL l
 |[],_,_,_,_,_=>rfl
 | .fst::q,.pair a b,cs,cL,l,h=>by
  simp only[addrAt]
  exact dJ q (by simpa[aK] using h)
 | .snd::q,.pair a b,cs,cL,l,h=>by
  simp only[addrAt]
  exact dJ q (by simpa[aK] using h)
 | .fst::q,.int _,_,_,_,_=>by simp[addrAt]
 | .fst::q,.bool,_,_,_,_=>by simp[addrAt]
 | .fst::q,.str,_,_,_,_=>by simp[addrAt]
 | .fst::q,.sl _,_,_,_,_=>by simp[addrAt]
 | .fst::q,.ptr _,_,_,_,_=>by simp[addrAt]
 | .fst::q,.unit,_,_,_,_=>by simp[addrAt]
 | .fst::q,.arr _ _,_,_,_,_=>by simp[addrAt]
 | .snd::q,.int _,_,_,_,_=>by simp[addrAt]
 | .snd::q,.bool,_,_,_,_=>by simp[addrAt]
 | .snd::q,.str,_,_,_,_=>by simp[addrAt]
 | .snd::q,.sl _,_,_,_,_=>by simp[addrAt]
 | .snd::q,.ptr _,_,_,_,_=>by simp[addrAt]
 | .snd::q,.unit,_,_,_,_=>by simp[addrAt]
 | .snd::q,.arr _ _,_,_,_,_=>by simp[addrAt]
theorem rY:∀ (q p:Path) {t:Ty} {m:Md} {x:t.I} {b:TV} {r:Md×t.I},fD b p t m x=some r→aK p=false→depth q≤1→valid q t x→valid q t r.2
 |[],_,_,_,_,_,_,_,_,_,_=>trivial
 | .deref::q,p,.ptr t,m,x,b,r,h,hp,hd,hv=>by
  simp only[valid] at hv ⊢
  exact h9 q (fo q (by simp[depth] at hd;omega)) hv
 | .idx i::q,p,.sl t,m,xs,b,r,h,hp,hd,hv=>by
  simp only[valid] at hv ⊢
  refine⟨?_,h9 q (fo q (by simp[depth] at hd;omega)) hv.2⟩
  cases p with
  |nil=>simp[aK] at hp
  |cons s p=>
   cases s<;>cases m<;>simp[fD] at h
   rename_i j T tag me
   have h':fD b (.idx j::p) (.sl t) (.o T tag me) xs=some r:=by simp only[fD];exact h
   obtain⟨r1,_,_,rfl⟩:=yj h'
   simpa using hv.1
 | .fst::q,p,.pair t u,m,x,b,r,h,hp,hd,hv=>by
  simp only[valid] at hv ⊢
  cases p with
  |nil=>simp[aK] at hp
  |cons s p=>
   cases s<;>simp only[fD,reduceCtorEq] at h
   ·split at h
    ·rename_i r1 h1
     injection h with h
     subst h
     exact rY q p h1 (by simpa[aK] using hp) (by simpa[depth] using hd) hv
    ·cases h
   ·split at h
    ·rename_i r1 h1
     injection h with h
     subst h
     exact hv
    ·cases h
 | .snd::q,p,.pair t u,m,x,b,r,h,hp,hd,hv=>by
  simp only[valid] at hv ⊢
  cases p with
  |nil=>simp[aK] at hp
  |cons s p=>
   cases s<;>simp only[fD,reduceCtorEq] at h
   ·split at h
    ·rename_i r1 h1
     injection h with h
     subst h
     exact hv
    ·cases h
   ·split at h
    ·rename_i r1 h1
     injection h with h
     subst h
     exact rY q p h1 (by simpa[aK] using hp) (by simpa[depth] using hd) hv
    ·cases h
theorem nx:∀ (q:Path) {t:Ty} {m:Md} {x:t.I} {cs:List Value} {ow:Nat→Prop} {hs:List Path} {l:Option (Nat×Nat)} {g:Nat×Nat},
  M w' A' H t m x cs ow hs→open_ q hs→valid q t x→depth q≤1→addrAt w q t cs l=some g→addrAt w' q t cs l=some g
 |[],_,_,_,_,_,_,_,_,_,_,_,_,e=>e
 | .deref::q,.ptr t,m,x,cs,ow,hs,l,g0,h,ho,hv,hd,e=>by
  have hq:aK q=true:=fo q (by simp[depth] at hd;omega)
  simp only[M] at h
  rcases h with⟨hn,_⟩ |⟨hk,h⟩ |⟨T,tag,me,g,cur,rfl,rfl,ht,oQ,hw,h⟩
  ·exact absurd hn ho.not_nil
  ·simp only[K] at h
   obtain⟨g,off,cur,T,fr,rfl,Wa,hw,hl,h⟩:=h
   simp only[addrAt,bz hw hl,Option.bind_some] at e ⊢
   cases hr:rowAt w g off t.size with
   |none=>rw[hr] at e;cases e
   |some row=>
    rw[hr,Option.bind_some] at e
    rw[←e]
    exact dJ q hq
  ·have iD:0+t.size≤cur.size:=by rw[←(eS t h).1];simp
   simp only[addrAt,bz hw iD,Option.bind_some] at e ⊢
   cases hr:rowAt w g 0 t.size with
   |none=>rw[hr] at e;cases e
   |some row=>
    rw[hr,Option.bind_some] at e
    rw[←e]
    exact dJ q hq
 | .fst::q,.pair a b',m,x,cs,ow,hs,l,g0,h,ho,hv,hd,e=>by
  simp only[valid] at hv
  simp only[M] at h
  simp only[addrAt] at e ⊢
  rcases h with⟨hn,_⟩ |⟨hk,h⟩ |⟨ma,mb,c0,c1,s,rfl,rfl,h0,h1⟩
  ·exact absurd hn ho.not_nil
  ·simp only[K] at h
   obtain⟨c0,c1,rfl,h0,h1⟩:=h
   rw[←(jF a h0).1,List.take_left] at e ⊢
   exact nx q (eX (H:=H) (ow:=fun _=>False) (hs:=sub .fst hs) a h0) ho.sub hv (by simpa[depth] using hd) e
  ·rw[←(eS a h0).1,List.take_left] at e ⊢
   exact nx q h0 ho.sub hv (by simpa[depth] using hd) e
 | .snd::q,.pair a b',m,x,cs,ow,hs,l,g0,h,ho,hv,hd,e=>by
  simp only[valid] at hv
  simp only[M] at h
  simp only[addrAt] at e ⊢
  rcases h with⟨hn,_⟩ |⟨hk,h⟩ |⟨ma,mb,c0,c1,s,rfl,rfl,h0,h1⟩
  ·exact absurd hn ho.not_nil
  ·simp only[K] at h
   obtain⟨c0,c1,rfl,h0,h1⟩:=h
   rw[←(jF a h0).1,List.drop_left] at e ⊢
   exact nx q (eX (H:=H) (ow:=fun _=>False) (hs:=sub .snd hs) b' h1) ho.sub hv (by simpa[depth] using hd) e
  ·rw[←(eS a h0).1,List.drop_left] at e ⊢
   exact nx q h1 ho.sub hv (by simpa[depth] using hd) e
 | .idx i::q,.sl t,m,xs,cs,ow,hs,l,g0,h,ho,hv,hd,e=>by
  have hq:aK q=true:=fo q (by simp[depth] at hd;omega)
  simp only[valid] at hv
  obtain⟨hi,hv⟩:=hv
  simp only[M] at h
  rcases h with⟨hn,_⟩ |⟨hk,h⟩ |⟨T,tag,me,X,c,rfl,rfl,hc,ht,h⟩
  ·exact absurd hn ho.not_nil
  ·simp only[K] at h
   obtain⟨X,c,rfl,hc,h⟩:=h
   obtain⟨g,off,cur,T,fr,rfl,Wa,hw,hl,h⟩:=h (by omega)
   have hbound:off+i*t.size+t.size≤cur.size:=by
    have:=Nat.mul_le_mul_right t.size (show i+1≤xs.length from hi)
    rw[Nat.add_mul,Nat.one_mul] at this
    omega
   simp only[addrAt,bz hw hbound,Option.bind_some] at e ⊢
   cases hr:rowAt w g (off+i*t.size) t.size with
   |none=>rw[hr] at e;cases e
   |some row=>
    rw[hr,Option.bind_some] at e
    rw[←e]
    exact dJ q hq
  ·rcases h with⟨rfl,_⟩ |⟨g,cur,τ,rfl,oQ,hw,iD,hm,h⟩
   ·simp at hi
   ·have hbound:0+i*t.size+t.size≤cur.size:=by
     have h1:=Nat.mul_le_mul_right t.size (show i+1≤xs.length from hi)
     have h2:=Nat.mul_le_mul_right t.size hc
     rw[Nat.add_mul,Nat.one_mul] at h1
     omega
    simp only[addrAt,bz hw hbound,Option.bind_some] at e ⊢
    cases hr:rowAt w g (0+i*t.size) t.size with
    |none=>rw[hr] at e;cases e
    |some row=>
     rw[hr,Option.bind_some] at e
     rw[←e]
     exact dJ q hq
theorem QO:∀ (q p:Path) {t:Ty} {m:Md} {x:t.I} {b b1:TV} {r:Md×t.I},fD b p t m x=some r→a8 q t m x=some b1→∀ m',∃ b2,a8 q t m' r.2=some b2∧b2.t=b1.t:=by
 have key:∀ (q:Path) {t:Ty} {m m':Md} {x y:t.I} {b1:TV},a8 q t m x=some b1→∃ b2,a8 q t m' y=some b2∧b2.t=b1.t:=by
  intro q
  induction q with
  |nil=>intro t m m' x y b1 h;simp only[a8,Option.some.injEq] at h;subst h;exact⟨_,rfl,rfl⟩
  |cons s q ih=>
   intro t m m' x y b1 h
   cases s<;>cases t<;>simp only[a8,reduceCtorEq] at h ⊢
   all_goals exact ih h
 intro q p t m x b b1 r _ h m'
 exact key q h
theorem BT (cc:a6 w w' A A') {d:Nat} {r r':TV} {ex xL:List Path} (sZ:r'.t=r.t) (hd:S.at d=.v r ex) (Mr:S'.at d=.v r' xL) (hS:∀ i r1 My,i≠d→S.at i=.v r1 My→S'.at i=.v r1 My)
  (hM:∃ bY Dq,an r.t (tm d) bY∧M w' A' H r'.t r'.m r'.x bY Dq xL) (hex:∀ q∈xL,q∈ex)
  (gY:∀ q,depth q≤1→valid q r.t r.x→valid q r'.t r'.x) (eY:∀ q b1,a8 q r.t r.m r.x=some b1→∃ b2,a8 q r'.t r'.m r'.x=some b2∧b2.t=b1.t)
  (hk:∀ s,s≠d→∃ own,Holds w A H tm S own (S.at s) (tm s)∧∀ g,own g→g<w.heap.size→w'.heap[g]? =w.heap[g]?)
  {own Dq:Nat→Prop} (nt:∀ g,own g→g<w.heap.size→w'.heap[g]? =w.heap[g]? ∧Dq g) {av:AV} {v:Value} (hf:av.eG d=false) (h:Holds w A H tm S own av v):Holds w' A' H tm S' Dq av v:=by
 have MA:∀ s,s≠d→Kept w w' A H tm tm S S' s:=fun s hs=>⟨fun r1 My=>hS s r1 My hs,rfl,hk s hs⟩
 have aa4:∀ {t:Ty} {q:Path} {r1:TV} {bY:List Value},depth q≤1→Ref tm S t d q r1 bY→r1=r∧Ref tm S' t d q r' bY:=by
  intro t q r1 bY hq hr
  obtain⟨⟨My,h1,h2⟩,h3,⟨b1,h4,h5⟩,h6⟩:=hr
  rw[hd] at h1
  injection h1 with h1 PY
  subst h1 PY
  obtain⟨b2,k1,k2⟩:=eY q b1 h4
  exact⟨rfl,⟨xL,Mr,fun p hp=>h2 p (hex p hp)⟩,gY q hq h3,⟨b2,k1,k2.trans h5⟩,by rw[sZ];exact h6⟩
 cases av with
 |dead=>trivial
 |undef=>exact h
 |v b My=>
  obtain⟨cs,h1,h2⟩:=h
  exact⟨cs,h1,aN cc _ (fun g hg hl=>(nt g hg hl).1) (fun g hg hl=>(nt g hg hl).2) (fun _ h=>h) h2⟩
 |qZ l=>
  obtain⟨vs,τ,h1,h2,h3⟩:=h
  refine⟨vs,τ,h1,h2,fun j b hj=> ?_⟩
  obtain⟨u,cs,k1,k2,k3⟩:=h3 j b hj
  exact⟨u,cs,k1,k2,aN cc _ (fun g hg hl=>(nt g hg.1 hl).1) (fun g hg hl=>⟨(nt g hg.1 hl).2,hg.2⟩) (fun _ h=>h) k3⟩
 |al t s p=>
  obtain⟨r1,bY,cs,hr,hc,hm⟩:=h
  by_cases uP:s=d
  ·subst uP
   cases p with
   |cons _ _=>simp[AV.eG] at hf
   |nil=>
    obtain⟨rfl,uT⟩:=aa4 (by simp[depth]) hr
    exact⟨r',bY,cs,uT,hc,hm⟩
  ·obtain⟨h1,h2⟩:=hr.kept cc (MA s uP)
   exact⟨r1,bY,cs,h1,by rw[(h2 none).1];exact hc,hm⟩
 |ad t s p=>
  obtain⟨r1,bY,g,off,hr,hc,hm⟩:=h
  by_cases uP:s=d
  ·subst uP
   have agA:depth p≤1:=by
    simp only[AV.eG,Nat.beq_refl,Bool.true_and] at hf
    have: ¬ 2≤depth p:=fun h2=>by rw[Nat.ble_eq_true_of_le h2] at hf;cases hf
    omega
   obtain⟨rfl,uT⟩:=aa4 agA hr
   obtain⟨cs1,Wn,m1,m2⟩:=hM
   obtain rfl:=cC m1 hr.J5
   obtain⟨My,e1,e2⟩:=uT.at_
   rw[Mr] at e1
   injection e1 with _ e1
   subst e1
   refine⟨r',cs1,g,off,uT,nx (w:=w) p m2 e2 uT.val agA (by rw[sZ];exact hc),hm⟩
  ·obtain⟨h1,h2⟩:=hr.kept cc (MA s uP)
   exact⟨r1,bY,g,off,h1,by rw[(h2 none).2];exact hc,hm⟩
 |cut t s p lo hi=>
  obtain⟨r1,bY,t',A1,n,c,hr,ht,hc,hm⟩:=h
  by_cases uP:s=d
  ·subst uP
   simp[AV.eG] at hf
  ·obtain⟨h1,h2⟩:=hr.kept cc (MA s uP)
   exact⟨r1,bY,t',A1,n,c,h1,ht,by rw[(h2 none).1];exact hc,hm⟩
 |nc f cq=>
  obtain⟨vs,h1,h2,h3⟩:=h
  refine⟨vs,h1,h2,fun j c hj=> ?_⟩
  obtain⟨u,k1,k2⟩:=h3 j c hj
  refine⟨u,k1, ?_⟩
  cases c with
  |kv b=>exact bR cc _ k2
  |pl t s p=>
   by_cases uP:s=d
   ·subst uP
    obtain⟨r1,bY,cs,hr,hc,hm⟩:=k2
    cases p with
    |cons _ _=>
     have mo:=List.any_eq_false.1 hf _ (List.mem_of_getElem? hj)
     simp at mo
    |nil=>
     obtain⟨rfl,uT⟩:=aa4 (by simp[depth]) hr
     exact⟨r',bY,cs,uT,hc,hm⟩
   ·exact lJ.kept cc (fun t1 s1 p1 e1=>by injection e1 with _ e1 _;subst e1;exact MA _ uP) k2
theorem DF:∀ (p h:Path),pre p h=true→∃ q,h=p++q
 |[],h,_=>⟨h,rfl⟩
 | .deref::p,.deref::h,e=>by obtain⟨q,rfl⟩:=DF p h (by simpa[pre] using e);exact⟨q,rfl⟩
 | .fst::p,.fst::h,e=>by obtain⟨q,rfl⟩:=DF p h (by simpa[pre] using e);exact⟨q,rfl⟩
 | .snd::p,.snd::h,e=>by obtain⟨q,rfl⟩:=DF p h (by simpa[pre] using e);exact⟨q,rfl⟩
theorem WL {x:Operand} {av:AV} {b:TV} {s:Nat} {r:TV} {ex:List Path} (e:S.db x av=some (b,S1)) (hs:S1.at s=.v r ex):∃ Ku,S.at s=.v r Ku∧∀ q∈Ku,q∈ex:=by
 have Pb:∀ i,(S.put (some i) .dead).at s=.v r ex→S.at s=.v r ex:=by
  intro i h
  rw[cU] at h
  split at h
  ·simp[AV.refs] at h
  ·cases hr:(S.at s).refs i&&(S.at i).sY with
   |true=>rw[hr] at h;cases h
   |false=>rw[hr] at h;exact h
 cases av with
 |v b0 Ku=>
  simp only[St.db] at e
  cases hk:b0.m.bQ with
  |true=>
   rw[hk] at e
   simp only[cond_true,Option.some.injEq,Prod.mk.injEq] at e
   obtain⟨_,rfl⟩:=e
   exact⟨ex,hs,fun _ h=>h⟩
  |false=>
   rw[hk] at e
   simp only[cond_false] at e
   split at e
   ·simp only[Option.some.injEq,Prod.mk.injEq] at e
    obtain⟨_,rfl⟩:=e
    exact⟨ex,Pb _ hs,fun _ h=>h⟩
   ·simp only[Option.some.injEq,Prod.mk.injEq] at e
    obtain⟨_,rfl⟩:=e
    exact⟨ex,hs,fun _ h=>h⟩
   ·cases e
 |al t s0 p=>
  simp only[St.db] at e
  split at e
  ·rename_i b' hb
   cases hk:b'.m.bQ with
   |true=>
    rw[hk] at e
    simp only[cond_true,Option.some.injEq,Prod.mk.injEq] at e
    obtain⟨_,rfl⟩:=e
    exact⟨ex,hs,fun _ h=>h⟩
   |false=>
    rw[hk] at e
    simp only[cond_false] at e
    split at e
    ·simp only[Option.some.injEq,Prod.mk.injEq] at e
     obtain⟨_,rfl⟩:=e
     exact⟨ex,Pb _ hs,fun _ h=>h⟩
    ·rename_i r2 QD _ dG
     simp only[Option.some.injEq,Prod.mk.injEq] at e
     obtain⟨_,rfl⟩:=e
     rw[cr] at hs
     split at hs
     ·rename_i hx
      injection hs with h1 h2
      subst h1 h2
      rw[hx.1]
      exact⟨QD,dG,fun q hq=>List.mem_append_left _ hq⟩
     ·rw[yQ,iJ] at hs
      cases qH:(S.at s).eG s0 with
      |true=>rw[qH] at hs;simp at hs
      |false=>
       rw[qH] at hs
       simp only[cond_false] at hs
       split at hs
       ·cases hx:(Nat.beq _ s0&&under _ _) with
        |true=>rw[hx] at hs;cases hs
        |false=>rw[hx] at hs;cases hs
       ·exact⟨ex,hs,fun _ h=>h⟩
    ·cases e
  ·cases e
 |cut t s0 p lo hi=>
  cases p with
  |cons _ _=>simp[St.db] at e
  |nil=>
   simp only[St.db] at e
   split at e
   ·cases hl:Nat.beq lo 0 with
    |false=>rw[hl] at e;cases e
    |true=>
     rw[hl] at e
     simp only[cond_true,Option.some.injEq,Prod.mk.injEq] at e
     obtain⟨_,rfl⟩:=e
     exact⟨ex,Pb _ hs,fun _ h=>h⟩
   ·cases e
 |_=>simp[St.db] at e
end Go.Pv
namespace Go.Pv
set_option linter.unusedVariables false
set_option linter.unusedSimpArgs false
variable {P:Program} {w w':World} {A A' Wr:Nat→Prop} {H:Nat→Value} {tm o7:Nat→Value} {S S' S1:St} {σ bK:Nat→Option Nat} {w0:World} {W0 Z:Nat→Prop} {a:Act} {own:Nat→Prop} {v:Value} {Θ:cK} {dst:Option Nat}
theorem Fr.setRow (h:Fr w0 W0 w) {g:Nat} {cs:Array Value} (hg:w0.heap.size≤g∨W0 g):Fr w0 W0 (w.setRow g cs):=by
 refine⟨h.os,h.tape,h.output,by rw[setRow_size];exact h.size,fun k hk hn=> ?_⟩
 rw[setRow_other w g k _ (fun e=>by subst e;rcases hg with hg |hg;omega;exact hn hg)]
 exact h.block k hk hn
theorem Pc (hT:cM P Θ=true) {T:TypeId} {t:Ty} {g off:Nat} {cs:List Value} {v:Value} {cur:Array Value} {T':TypeId} (ht:Θ.is T t=true) (hm:an t v cs) (hl:cs.length=t.size) (h1:∀ u∈cs,u.oneCell'=true)
  (hw:w.heap[g]? =some (.cells cur T' (0,0))) (hb:off+cs.length≤cur.size):
  (Instr.storeAt T (.pointer (some ⟨g,off,none⟩)) v).run P w=.ok () (w.setRow g (putCells cur.toList off cs).toArray):=by
 obtain⟨inf,hi,hs,_⟩:=gD hT ht
 have:=run_storeCells_at (P:=P) g off T' cs 0 cur w hw (by omega) h1
 simp only[Nat.add_zero] at this
 simp[Instr.storeAt,Instr.sureAddr,storeVar,sizeOf,typeInfo,hi,hs,gL hm h1,hl]
 rw[hl] at this
 unfold putCells
 rw[hl]
 simpa using this
theorem tG:∀ (p h:Path),fp p h=true→vH p h=true→h=p
 |[],[],_,_=>rfl
 | .idx i::p,.idx j::h,e,e2=>by
  simp only[vH,Bool.and_eq_true] at e2
  rw[tG p h (by simpa[fp] using e) e2.1,Nat.eq_of_beq_eq_true e2.2]
 | .deref::p,.deref::h,e,e2=>by rw[tG p h (by simpa[fp] using e) (by simpa[vH] using e2)]
 | .fst::p,.fst::h,e,e2=>by rw[tG p h (by simpa[fp] using e) (by simpa[vH] using e2)]
 | .snd::p,.snd::h,e,e2=>by rw[tG p h (by simpa[fp] using e) (by simpa[vH] using e2)]
 |[],.idx _::_,e,_ |[],.deref::_,e,_ |[],.fst::_,e,_ |[],.snd::_,e,_=>by simp[fp] at e
 | .idx _::_,[],e,_ | .deref::_,[],e,_ | .fst::_,[],e,_ | .snd::_,[],e,_=>by simp[fp] at e
 | .idx _::_,.deref::_,e,_ | .idx _::_,.fst::_,e,_ | .idx _::_,.snd::_,e,_=>by simp[fp] at e
 | .deref::_,.idx _::_,e,_ | .deref::_,.fst::_,e,_ | .deref::_,.snd::_,e,_=>by simp[fp] at e
 | .fst::_,.idx _::_,e,_ | .fst::_,.deref::_,e,_ | .fst::_,.snd::_,e,_=>by simp[fp] at e
 | .snd::_,.idx _::_,e,_ | .snd::_,.deref::_,e,_ | .snd::_,.fst::_,e,_=>by simp[fp] at e
theorem tH {p q:Path}:∀ {l:List Path},q∈(dv p l).2→q∈l
 |[],h=>h
 |x::r,h=>by
  simp only[dv] at h
  cases ha:fp p x with
  |true=>rw[ha] at h;exact List.mem_cons_of_mem _ h
  |false=>
   rw[ha] at h
   simp only[cond_false,List.mem_cons] at h
   rcases h with h |h
   ·rw[h];exact List.mem_cons_self
   ·exact List.mem_cons_of_mem _ (tH h)
theorem rr {p q:Path}:∀ {l:List Path},(dv p l).1=true→(∀ q',q≠p++q')→q∈l→q∈(dv p l).2
 |[],_,_,h=>h
 |x::r,hc,hn,h=>by
  simp only[dv] at hc ⊢
  cases ha:fp p x with
  |true=>
   rw[ha] at hc
   simp only[cond_true] at hc ⊢
   rcases List.mem_cons.1 h with h |h
   ·subst h
    exact absurd ((tG p q ha hc).trans (List.append_nil p).symm) (hn [])
   ·exact h
  |false=>
   rw[ha] at hc
   simp only[cond_false] at hc ⊢
   rcases List.mem_cons.1 h with h |h
   ·rw[h];exact List.mem_cons_self
   ·exact List.mem_cons_of_mem _ (rr hc hn h)
def aa5 (Θ:cK) (T:TypeId) (x y:Operand) (S S':St) (a:Act) (w w':World):Prop:=∃ (av Yg:AV) (t:Ty) (s:Nat) (p:Path) (b:TV) (S1:St) (r r':TV) (Ku My:List Path) (cs bY:List Value) (g off:Nat) (cur:Array Value) (T':TypeId),
 S.dn Θ 0 x=some av∧S.rh x av=some (.pl t s p)∧S.dn Θ T y=some Yg∧S.db y Yg=some (b,S1)∧S.at s=.v r Ku∧S'.at s=.v r' My∧r'.t=r.t∧(∃ b0,a8 p r.t r.m r.x=some b0∧b.t=b0.t)∧
 an b.t (a.eval y) cs∧cs.length=b.t.size∧an r.t (bM a s) bY∧addrAt w p r.t bY none=some (g,off)∧w.heap[g]? =some (.cells cur T' (0,0))∧off+cs.length≤cur.size∧w'=w.setRow g (putCells cur.toList off cs).toArray
theorem yU (hT:cM P Θ=true) (h:bd σ w0 W0 Z H S a w) {o:Oper} {T:TypeId} {x y:Operand} (ho:o.op=.store T x y) (ke:o.dst=none) (e:gX Θ S T x y=some (true,S')):
  ∃ w' dH,(execOp a.eval o).run P w=.ok .skip w'∧bd dH w0 W0 Z H S' a w'∧aa5 Θ T x y S S' a w w':=by
 unfold gX at e
 split at e
 case h_2=>cases e
 rename_i av dh
 split at e
 case h_2=>cases e
 rename_i t s p WM
 unfold St.take at e
 split at e
 case h_2=>cases e
 rename_i b S1 hb
 split at hb
 case h_2=>cases hb
 rename_i Yg yV
 cases hc:Θ.is T b.t with
 |false=>rw[hc] at e;cases e
 |true=>
 rw[hc] at e
 simp only[cond_true] at e
 split at e
 case h_2=>cases e
 rename_i r ex Wd
 split at e
 case h_2=>cases e
 rename_i m z mP
 cases hex:ex.all (fun q=> !under q p) with
 |false=>rw[hex] at e;cases e
 |true=>
 rw[hex] at e
 simp only[cond_true,Option.some.injEq,Prod.mk.injEq] at e
 obtain⟨hds,e⟩:=e
 have tI:open_ p ex:=dq (fun q hq=>by simpa using List.all_eq_true.1 hex q hq)
 obtain⟨r0,Ku,q1,q2⟩:=pK h dh WM
 obtain⟨bK,cs,ow,h1,hm,hM,hk,hn⟩:=ef h yV hb
 obtain⟨ajW,q3,q4⟩:=WL hb Wd
 rw[q1] at q3
 injection q3 with q3 q3'
 subst q3 q3'
 obtain⟨bY,g,off,hr,jQ,hx⟩:=q2 (fun q hq=>tI q (q4 q hq))
 obtain⟨b0,Wf,s7⟩:=hr.get
 -- the slot, behind the take
 have hh:=h1.holds s
 rw[Wd] at hh
 obtain⟨agB,WN,JX⟩:=hh
 obtain rfl:=cC hr.J5 WN
 have BH:s<S1.length:=dQ (by rw[Wd];exact fun e=>by cases e)
 obtain⟨cL,cG,c1,c2,c3,jo⟩:=uL p JX tI hr.val Wf
 have eQ:b.t=b0.t:=qL p mP Wf
 obtain⟨nW,jo⟩:=jo b (m,z) eQ mP
 have hpm:aK p=false:=by
  cases hp:aK p with
  |false=>rfl
  |true=>rw[dN p hp] at jQ;cases jQ
 -- the address is the same: the world is
 have QP:addrAt w p r0.t bY none=some (g,off):=jQ
 obtain⟨dZ,o6,cur,T',hw,hbound,_⟩:=nW g off QP
 obtain⟨hlen,WO⟩:=eS _ hM
 have po:off+cs.length≤cur.size:=by rw[hlen,eQ];exact hbound
 have cQ:=Pc (P:=P) (w:=w) hT hc hm hlen WO hw po
 have tJ:∀ g',ow g'→bK g'≠some s:=fun g' bX e'=>by
  obtain⟨i,hi,lP⟩:=hk.now g' bX
  rw[e'] at lP
  injection lP with lP
  omega
 let du:Nat→Option Nat:=fun g'=>open Classical in if ow g' then some s else bK g'
 have DG:∀ g' i,du g'=some i→(ow g'∧i=s)∨(¬ow g'∧bK g'=some i):=fun g' i bX=>by
  simp only[du] at bX
  split at bX
  ·injection bX with bX;exact .inl ⟨by assumption,bX.symm⟩
  ·exact .inr ⟨by assumption,bX⟩
 have CB:∀ g' i, ¬ow g'→bK g'=some i→du g'=some i:=fun g' i hn bX=>by simp only[du,if_neg hn,bX]
 have WQ:∀ g',Av du Z g'→Av bK Z g':=fun g' bX=>by
  rcases bX with⟨i,bX⟩ |bX
  ·rcases DG g' i bX with⟨hx,_⟩ |⟨_,hx⟩
   ·obtain⟨j,_,hj⟩:=hk.now g' hx
    exact .inl ⟨j,hj⟩
   ·exact .inl ⟨i,hx⟩
  ·exact .inr bX
 have jT:∀ k,k≠g→(w.setRow g (putCells cur.toList off cs).toArray).heap[k]? =w.heap[k]? :=fun k hk=>setRow_other w g k _ hk
 have cc:a6 w (w.setRow g (putCells cur.toList off cs).toArray) (Av bK Z) (Av du Z):=⟨fun k hk _=>jT k (fun e'=>hk (by rw[e'];exact .inl ⟨s,dZ⟩)),fun k _ hk=>WQ k hk⟩
 have hMb:M (w.setRow g (putCells cur.toList off cs).toArray) (Av du Z) H b.t b.m b.x cs ow (s6 p (dv p (ex.filter fun q=> !pre p q)).2):=by
  refine aN ⟨fun k fA _=>jT k (fun e'=>fA (by rw[e'];exact hk.Av.1 (.inl ⟨s,dZ⟩))),fun k _ fA=>hk.Av.1 (WQ k fA)⟩ _ (fun k fA _=>jT k (fun e'=>tJ k fA (by rw[e'];exact dZ))) (fun k fA _=>fA) (fun _ h=>by simp at h) hM
 have yW:=jo (w.setRow g (putCells cur.toList off cs).toArray) (Av du Z) cs ow (dv p (ex.filter fun q=> !pre p q)).2 cc (by rw[hlen,eQ]) (fun k JQ Cz _=>by
   rw[QP]
   simp only[jG]
   split
   ·rename_i hkg
    subst hkg
    exact⟨cur,T',hw,setRow_heap w k cur _ T' (0,0) hw⟩
   ·rename_i hkg
    exact jT k hkg) hMb (fun k JQ _ Cz=>absurd Cz (tJ k JQ)) (fun q Yh Ci=>by
   refine rr hds Yh (List.mem_filter.2 ⟨Ci, ?_⟩)
   cases hp:pre p q with
   |false=>rfl
   |true=>
    obtain⟨q',rfl⟩:=DF p q hp
    exact absurd rfl (Yh q'))
 rw[iE p hpm] at yW
 have Yi:M (w.setRow g (putCells cur.toList off cs).toArray) (Av du Z) H r0.t m z bY (fun g'=>du g'=some s) (dv p (ex.filter fun q=> !pre p q)).2:=by
  refine aN (a6.refl _ _) _ (fun _ _ _=>rfl) (fun k fA _=> ?_) (fun _ h=>h) yW
  rcases fA with⟨k1,_⟩ |k1
  ·exact CB k s (fun hx=>tJ k hx k1) k1
  ·simp only[du,if_pos k1]
 have agC:((S1.weaken s).set s (.v ⟨r0.t,m,z⟩ (dv p (ex.filter fun q=> !pre p q)).2)).length=S1.length:=by simp[St.weaken]
 refine⟨w.setRow g (putCells cur.toList off cs).toArray,du, ?_, ?_,av,Yg,t,s,p,b,S1,r0,⟨r0.t,m,z⟩,_,_,cs,bY,g,off,cur,T',dh,WM,yV,hb,q1,by rw[←e,cr,if_pos ⟨rfl,by simp[St.weaken];exact BH⟩],rfl,⟨b0,Wf,eQ⟩,hm,hlen,hr.J5,jQ,hw,po,rfl⟩
 ·simp only[execOp,ho,hx,Sem.run_bind,cQ,Result.andThen_ok]
  rfl
 ·show bd du w0 W0 Z H S' a (w.setRow g (putCells cur.toList off cs).toArray)
  have dG:∀ i,S'.at i=if i=s then .v ⟨r0.t,m,z⟩ (dv p (ex.filter fun q=> !pre p q)).2 else bif (S1.at i).eG s then .dead else S1.at i:=by
   intro i
   rw[←e,cr]
   by_cases hi:i=s
   ·rw[if_pos hi,if_pos ⟨hi,by simp[St.weaken];exact BH⟩]
   ·rw[if_neg hi,if_neg (fun h=>hi h.1),iJ]
  refine⟨by rw[←e,agC];exact h1.len,h1.defers,h1.fr.setRow (h1.new g s dZ),fun g' i bX=> ?_,fun g' i bX=> ?_,fun g' bX=>⟨?_,(h1.old g' bX).2⟩,fun i=> ?_⟩
  ·rcases DG g' i bX with⟨hx,_⟩ |⟨_,hx⟩
   ·obtain⟨j,_,hj⟩:=hk.now g' hx
    exact h1.new g' j hj
   ·exact h1.new g' i hx
  ·rw[setRow_size]
   rcases DG g' i bX with⟨hx,_⟩ |⟨_,hx⟩
   ·obtain⟨j,_,hj⟩:=hk.now g' hx
    exact h1.lt g' j hj
   ·exact h1.lt g' i hx
  ·have:=(h1.old g' bX).1
   simp only[du]
   split
   ·rename_i hx
    obtain⟨j,_,hj⟩:=hk.now g' hx
    rw[this] at hj
    cases hj
   ·exact this
  ·rw[dG i]
   by_cases QM:i=s
   ·subst QM
    rw[if_pos rfl]
    exact⟨bY,hr.J5,Yi⟩
   ·rw[if_neg QM]
    by_cases BL:i<S1.length
    rotate_left
    ·have:S1.at i=.dead:=Classical.byContradiction fun hx=>BL (dQ hx)
     rw[this]
     trivial
    cases qH:(S1.at i).eG s with
    |true=>trivial
    |false=>
     simp only[cond_false]
     refine BT (r:=r0) (r':=⟨r0.t,m,z⟩) (ex:=ex) (xL:=(dv p (ex.filter fun q=> !pre p q)).2) cc rfl Wd (by rw[dG s,if_pos rfl]) (fun j r1 My hj hv=>by rw[dG j,if_neg hj,hv];simp[AV.eG]) ⟨bY,_,hr.J5,Yi⟩ (fun q hq=>(List.mem_filter.1 (tH hq)).1)
      (fun q hq hv=>rY q p mP hpm hq hv) (fun q b1 hq=>QO q p mP hq m) (fun j hj=>⟨_,h1.holds j,fun g' bX _=>jT g' (fun e'=>by subst e';rw[dZ] at bX;injection bX with bX;exact hj bX.symm)⟩)
      (fun g' bX _=>⟨jT g' (fun e'=>by subst e';rw[dZ] at bX;injection bX with bX;exact QM bX.symm),CB g' i (fun hx=> ?_) bX⟩) qH (h1.holds i)
     obtain⟨j,JN,nO⟩:=hk.now g' hx
     rw[bX] at nO
     injection nO with nO
     omega
theorem QQ (hT:cM P Θ=true) (h:bd σ w0 W0 Z H S a w) {o:Oper} {T:TypeId} {x y:Operand} (ho:o.op=.store T x y) (ke:o.dst=none) (e:gX Θ S T x y=some (true,S')):BR P w0 W0 Z H S' a o.dst w (execOp a.eval o):=by
 obtain⟨w',dH,h1,h2,_⟩:=yU hT h ho ke e
 rw[ke]
 exact⟨w',undef,.inr ⟨rfl,h1⟩,dH,h2⟩
end Go.Pv
namespace Go.Pv
set_option linter.unusedVariables false
set_option linter.unusedSimpArgs false
variable {P:Program} {w w':World} {A A' Wr:Nat→Prop} {H:Nat→Value} {tm o7:Nat→Value} {S S' S1:St} {σ bK du:Nat→Option Nat} {w0:World} {W0 Z:Nat→Prop} {a:Act} {own:Nat→Prop} {v:Value} {Θ:cK} {dst:Option Nat}
theorem GI (off:Nat):∀ (l:List Value) (k:Nat) (cells:Array Value),off+k+l.length≤cells.size→
  ((l.zipIdx k).foldl (fun(cs:Array Value) (x:Value×Nat)=>cs.setIfInBounds (off+x.2) x.1) cells).toList=putCells cells.toList (off+k) l
 |[],k,cells,h=>by simp[putCells]
 |c::l,k,cells,h=>by
  simp only[List.zipIdx_cons,List.foldl_cons]
  simp only[List.length_cons] at h
  rw[GI off l (k+1) (cells.setIfInBounds (off+k) c) (by simp;omega)]
  have h1:off+k<cells.toList.length:=by simp;omega
  apply List.ext_getElem?
  intro j
  rw[nU _ _ _ _ (by simp;omega),nU _ _ _ _ (by simp;omega)]
  simp only[Array.toList_setIfInBounds,List.length_cons]
  by_cases hj:j<off+k
  ·rw[if_pos (by omega),if_pos hj,List.getElem?_set_ne (by omega)]
  ·by_cases nO:j=off+k
   ·subst nO
    rw[if_pos (by omega),if_neg (by omega),if_pos (by omega),List.getElem?_set_self h1]
    simp
   ·by_cases hj3:j<off+k+1+l.length
    ·rw[if_neg (by omega),if_pos (by omega),if_neg (by omega),if_pos (by omega),show j - (off+k)=(j - (off+(k+1)))+1 from by omega]
     simp
    ·rw[if_neg (by omega),if_neg (by omega),if_neg (by omega),if_neg (by omega),List.getElem?_set_ne (by omega)]
def ny (cE:List (List Value)) (i:Nat):Nat:=((cE.take i).map List.length).sum
theorem oc (cE:List (List Value)) (i:Nat) (h:i<cE.length):cE.flatten=(cE.take i).flatten++(cE[i]++(cE.drop (i+1)).flatten):=by
 conv=>lhs;rw[←List.take_append_drop i cE]
 rw[List.flatten_append,List.drop_eq_getElem_cons h,List.flatten_cons]
theorem yX (cE:List (List Value)) (i:Nat):(cE.take i).flatten.length=ny cE i:=by simp[ny,List.length_flatten]
theorem WR (cE:List (List Value)) (i:Nat) (c:List Value) (h:i<cE.length) (hc:c.length=cE[i].length):putCells cE.flatten (ny cE i) c=(cE.set i c).flatten:=by
 have e1:=oc cE i h
 have e2:=oc (cE.set i c) i (by simpa using h)
 rw[e2]
 simp only[List.getElem_set_self]
 rw[List.take_set_of_le (by omega),List.drop_set_of_lt (by omega)]
 have hd:cE.flatten.drop (ny cE i+c.length)=(cE.drop (i+1)).flatten:=by
  rw[e1, ←yX,hc, ←List.append_assoc, ←List.length_append,List.drop_left]
 have ht:cE.flatten.take (ny cE i)=(cE.take i).flatten:=by
  rw[e1, ←yX,List.take_left]
 unfold putCells
 rw[hd,ht,List.append_assoc]
theorem QR (cE:List (List Value)) (i j:Nat) (c:List Value) (h:i<cE.length) (hc:c.length=cE[i].length):ny (cE.set i c) j=ny cE j:=by
 unfold ny
 congr 1
 apply List.ext_getElem?
 intro k
 simp only[List.getElem?_map,List.getElem?_take,List.getElem?_set]
 split
 ·by_cases hk:i=k
  ·subst hk
   simp[h,hc]
  ·simp[hk]
 ·rfl
theorem QS (cE:List (List Value)) (i:Nat) (h:i<cE.length):ny cE i+cE[i].length≤cE.flatten.length:=by
 rw[oc cE i h,List.length_append,List.length_append,yX]
 omega
def GJ (f:Nat→Option (List Value)) (cE:List (List Value)):List (List Value):=cE.mapIdx fun i c=>(f i).getD c
theorem CC (place:Nat→Option (Nat×Nat)):∀ (parts:List (Nat×Value)) (cE:List (List Value)),(∀ i (h:i<cE.length),place i=some (ny cE i,cE[i].length))→
  (∀ q∈parts,∃ h:q.1<cE.length,q.2.cells.size=cE[q.1].length)→(parts.map (·.1)).Nodup→
  Instr.fill place cE.flatten.toArray parts=some (GJ (fun i=>(parts.find? (fun q=>Nat.beq q.1 i)).map (·.2.cells.toList)) cE).flatten.toArray
 |[],cE,_,_,_=>by
  have:GJ (fun i=>(([]:List (Nat×Value)).find? (fun q=>Nat.beq q.1 i)).map (·.2.cells.toList)) cE=cE:=by
   unfold GJ
   apply List.ext_getElem?
   intro k
   simp[List.getElem?_mapIdx]
  rw[this];rfl
 |(i,v)::rest,cE,hp,hs,hn=>by
  obtain⟨hi,hv⟩:=hs (i,v) (by simp)
  simp only at hi hv
  have po:=QS cE i hi
  simp only[Instr.fill,hp i hi]
  have agD:=po
  rw[List.length_flatten] at agD
  rw[if_neg (by simp[hv];omega)]
  have hlen:v.cells.toList.length=cE[i].length:=by simpa using hv
  have agE:v.cells.zipIdx.foldl (fun cs (x:Value×Nat)=>cs.setIfInBounds (ny cE i+x.2) x.1) cE.flatten.toArray=(cE.set i v.cells.toList).flatten.toArray:=by
   have:=GI (ny cE i) v.cells.toList 0 cE.flatten.toArray (by simp only[hlen,List.size_toArray];omega)
   rw[←WR cE i v.cells.toList hi hlen]
   apply Array.toList_inj.1
   rw[←Array.foldl_toList,Array.toList_zipIdx]
   simpa using this
  simp only[List.map_cons,List.nodup_cons] at hn
  have mP:∀ (k:Nat) (hk:k<(cE.set i v.cells.toList).length),(cE.set i v.cells.toList)[k].length=(cE[k]'(by simpa using hk)).length:=by
   intro k hk
   rw[List.getElem_set]
   split
   ·rename_i e;subst e;exact hlen
   ·rfl
  have ih:=CC place rest (cE.set i v.cells.toList) (fun k hk=>by rw[QR cE i k _ hi hlen,mP k hk];exact hp k (by simpa using hk)) (fun q hq=>by
   obtain⟨h1,h2⟩:=hs q (by simp[hq])
   exact⟨by simpa using h1,by rw[mP];exact h2⟩) hn.2
  refine(congrArg (fun c=>Instr.fill place c rest) agE).trans (ih.trans ?_)
  congr 3
  unfold GJ
  apply List.ext_getElem?
  intro k
  simp only[List.getElem?_mapIdx,List.getElem?_set]
  by_cases hk:i=k
  ·subst hk
   have:rest.find? (fun q=>Nat.beq q.1 i)=none:=List.find?_eq_none.2 fun q hq e=>hn.1 (List.mem_map.2 ⟨q,hq,Nat.eq_of_beq_eq_true e⟩)
   simp[hi,this]
  ·have:Nat.beq i k=false:=by
    cases hb:Nat.beq i k with
    |false=>rfl
    |true=>exact absurd (Nat.eq_of_beq_eq_true hb) hk
   simp[hk,this]
end Go.Pv
namespace Go.Pv
set_option linter.unusedVariables false
set_option linter.unusedSimpArgs false
variable {P:Program} {w w':World} {A A' Wr:Nat→Prop} {H:Nat→Value} {tm o7:Nat→Value} {S S' S1:St} {σ bK du:Nat→Option Nat} {w0:World} {W0 Z:Nat→Prop} {a:Act} {own:Nat→Prop} {v:Value} {Θ:cK} {dst:Option Nat}
theorem fC.trans {n:Nat} {ow1 nu:Nat→Prop} (h1:fC σ bK n ow1) (h2:fC bK du n nu):fC σ du n (fun g=>ow1 g∨nu g):=by
 refine⟨fun g hg=> ?_,fun g hg=> ?_,fun g i hg hi=>h1.sub g i (h2.sub g i hg hi) hi,fun g=>(h2.dom g).trans (h1.dom g),fun g i hg hi=>h2.par g i (h1.par g i hg hi) hi⟩
 ·rcases hg with hg |hg
  ·exact h1.GF g hg
  ·obtain⟨i,hi,lP⟩:=h2.GF g hg
   exact⟨i,hi,h1.sub g i lP hi⟩
 ·rcases hg with hg |hg
  ·obtain⟨i,hi,lP⟩:=h1.now g hg
   exact⟨i,hi,h2.par g i lP hi⟩
  ·exact h2.now g hg
theorem fC.apart {n:Nat} {ow1 nu:Nat→Prop} (h1:fC σ bK n ow1) (h2:fC bK du n nu) {g:Nat} (hg:ow1 g): ¬nu g:=fun o6=>by
 obtain⟨i,hi,lP⟩:=h1.now g hg
 obtain⟨j,hj,nO⟩:=h2.GF g o6
 rw[lP] at nO
 injection nO with nO
 omega
theorem lQ:∀ (t:Ty),(zc t).length=t.size
 | .int _=>rfl | .bool=>rfl | .str=>rfl | .sl _=>rfl | .ptr _=>rfl | .unit=>rfl
 | .pair a b=>by simp[zc,Ty.size,lQ a,lQ b]
 | .arr n t=>by simp[zc,Ty.size,List.length_flatten,lQ t]
theorem od (hT:cM P Θ=true) (ps:List (Nat×Operand)):∀ (Ts:List TypeId) (j:Nat) {S S1:St} {σ:Nat→Option Nat} {l:List TV},bd σ w0 W0 Z H S a w→S.parts Θ ps Ts j=some (l,S1)→
  ∃ (bK:Nat→Option Nat) (ow:Nat→Prop) (τ:Nat→Nat) (eD:List (List Value)),bd bK w0 W0 Z H S1 a w∧S1.length=S.length∧fC σ bK S.length ow∧eD.length=l.length∧l.length=Ts.length∧(∀ g,ow g→j≤τ g)∧
   ∀ (k:Nat) (b:TV),l[k]? =some b→∃ cs,eD[k]? =some cs∧M w (Av σ Z) H b.t b.m b.x cs (fun g=>ow g∧τ g=j+k) []∧
    ((∃ q,ps.find? (fun q=>Nat.beq q.1 (j+k))=some q∧an b.t (a.eval q.2) cs)∨(ps.find? (fun q=>Nat.beq q.1 (j+k))=none∧cs=zc b.t))
 |[],j,S,S1,σ,l,h,e=>by
  simp only[St.parts,Option.some.injEq,Prod.mk.injEq] at e
  obtain⟨rfl,rfl⟩:=e
  exact⟨σ,fun _=>False,fun _=>j,[],h,rfl,fC.none _ _,rfl,rfl,fun _ h=>h.elim,fun k b hk=>by simp at hk⟩
 |T::Ts,j,S,S1,σ,l,h,e=>by
  simp only[St.parts] at e
  split at e
  ·rename_i q hq
   unfold St.take at e
   split at e
   case h_2=>cases e
   rename_i b S2 hb
   split at hb
   case h_2=>cases hb
   rename_i av dh
   split at e
   case h_2=>cases e
   rename_i l2 S3 Yb
   simp only[Option.some.injEq,Prod.mk.injEq] at e
   obtain⟨rfl,rfl⟩:=e
   obtain⟨bK,cs,ow,h1,hm,hM,hk,hn⟩:=ef h dh hb
   obtain⟨du,nu,τ,eD,r1,r2,r3,r4,r5,r6,r7⟩:=od hT ps Ts (j+1) h1 Yb
   rw[hn] at r3
   have JR:∀ g,ow g→ ¬nu g:=fun g hg=>hk.apart r3 hg
   let MB:Nat→Nat:=fun g=>open Classical in if ow g then j else τ g
   refine⟨du,fun g=>ow g∨nu g,MB,cs::eD,r1,by omega,hk.trans r3,by simp[r4],by simp[r5],fun g hg=> ?_,fun k b' fA=> ?_⟩
   ·simp only[MB]
    split
    ·exact Nat.le_refl _
    ·rename_i hx
     have:=r6 g (hg.resolve_left hx)
     omega
   ·cases k with
    |zero=>
     simp only[List.getElem?_cons_zero,Option.some.injEq] at fA
     subst fA
     refine⟨cs,rfl,aN (a6.refl _ _) _ (fun _ _ _=>rfl) (fun g hg _=>⟨.inl hg,by simp only[MB,if_pos hg,Nat.add_zero]⟩) (fun _ h=>h) hM,.inl ⟨q,hq,hm⟩⟩
    |succ k=>
     simp only[List.getElem?_cons_succ] at fA ⊢
     obtain⟨c2,d1,d2,d3⟩:=r7 k b' fA
     refine⟨c2,d1,aN ⟨fun _ _ _=>rfl,fun g _ hg=>hk.Av.2 hg⟩ _ (fun _ _ _=>rfl) (fun g hg _=>⟨.inr hg.1, ?_⟩) (fun _ h=>h) d2,by rw[show j+(k+1)=j+1+k from by omega];exact d3⟩
     simp only[MB]
     rw[if_neg (fun hx=>JR g hx hg.1),hg.2]
     omega
  ·rename_i hq
   split at e
   case h_2=>cases e
   rename_i b hb
   split at e
   case h_2=>cases e
   rename_i l2 S3 Yb
   simp only[Option.some.injEq,Prod.mk.injEq] at e
   obtain⟨rfl,rfl⟩:=e
   obtain⟨i,inf,zv,_,_,hx,po,_⟩:=u9 hT hb
   obtain⟨du,nu,τ,eD,r1,r2,r3,r4,r5,r6,r7⟩:=od hT ps Ts (j+1) h Yb
   refine⟨du,nu,τ,zc b.t::eD,r1,r2,r3,by simp[r4],by simp[r5],fun g hg=>by have:=r6 g hg;omega,fun k b' fA=> ?_⟩
   cases k with
   |zero=>
    simp only[List.getElem?_cons_zero,Option.some.injEq] at fA
    subst fA
    refine⟨_,rfl,DE ?_,.inr ⟨hq,rfl⟩⟩
    rw[hx]
    exact yT _ po
   |succ k=>
    simp only[List.getElem?_cons_succ] at fA ⊢
    obtain⟨c2,d1,d2,d3⟩:=r7 k b' fA
    exact⟨c2,d1,aN (a6.refl _ _) _ (fun _ _ _=>rfl) (fun g hg _=>⟨hg.1,by rw[hg.2];omega⟩) (fun _ h=>h) d2,by rw[show j+(k+1)=j+1+k from by omega];exact d3⟩
theorem yY {ps:List (Nat×Operand)} {l:List TV} {eD:List (List Value)} {place:Nat→Option (Nat×Nat)} (hl:eD.length=l.length) (JP:ja l.length ps=true)
  (hlen:∀ (k:Nat) (b:TV) (cs:List Value),l[k]? =some b→eD[k]? =some cs→cs.length=b.t.size∧∀ u∈cs,u.oneCell'=true)
  (jS:∀ (k:Nat) (b:TV),l[k]? =some b→∃ cs,eD[k]? =some cs∧((∃ q,ps.find? (fun q=>Nat.beq q.1 k)=some q∧an b.t (a.eval q.2) cs)∨(ps.find? (fun q=>Nat.beq q.1 k)=none∧cs=zc b.t)))
  (agF:∀ i (h:i<l.length),place i=some (ny (l.map fun b=>zc b.t) i,l[i].t.size)):
  Instr.fill place (l.map fun b=>zc b.t).flatten.toArray (ps.map fun q=>(q.1,a.eval q.2))=some eD.flatten.toArray:=by
 have hp:∀ {n:Nat} {ps:List (Nat×Operand)},ja n ps=true→(∀ q∈ps,q.1<n)∧(ps.map (·.1)).Nodup:=by
  intro n ps
  induction ps with
  |nil=>intro _;exact⟨fun _ h=>by simp at h,by simp⟩
  |cons q r ih=>
   intro h
   simp only[ja,Bool.and_eq_true] at h
   obtain⟨⟨h1,h2⟩,h3⟩:=h
   obtain⟨i1,i2⟩:=ih h3
   refine⟨fun q' q8=> ?_, ?_⟩
   ·rcases List.mem_cons.1 q8 with rfl |q8
    ·exact Nat.lt_of_succ_le (Nat.le_of_ble_eq_true h1)
    ·exact i1 q' q8
   ·simp only[List.map_cons,List.nodup_cons]
    refine⟨fun hm=> ?_,i2⟩
    obtain⟨q',q8,e⟩:=List.mem_map.1 hm
    have:(r.any fun q'=>Nat.beq q'.1 q.1)=true:=List.any_eq_true.2 ⟨q',q8,by rw[e];exact Nat.beq_refl _⟩
    rw[this] at h2
    cases h2
 obtain⟨cI,Ch⟩:=hp JP
 have eY:∀ i (h:i<l.length),l[i]? =some l[i]:=fun i h=>List.getElem?_eq_getElem h
 have QH:∀ (i:Nat) (q:Nat×Operand),q∈ps→q.1=i→ps.find? (fun q=>Nat.beq q.1 i)=some q:=by
  intro i q hq hi
  subst hi
  clear jS hlen agF JP cI
  induction ps with
  |nil=>simp at hq
  |cons q' r ih=>
   simp only[List.map_cons,List.nodup_cons] at Ch
   rcases List.mem_cons.1 hq with rfl |hq
   ·simp
   ·have:Nat.beq q'.1 q.1=false:=by
     cases hb:Nat.beq q'.1 q.1 with
     |false=>rfl
     |true=>exact absurd (List.mem_map.2 ⟨q,hq,(Nat.eq_of_beq_eq_true hb).symm⟩) Ch.1
    rw[List.find?_cons,this]
    exact ih Ch.2 hq
 rw[CC place _ (l.map fun b=>zc b.t) (fun i h=>by
   rw[agF i (by simpa using h)]
   simp[lQ]) (fun q hq=>by
   obtain⟨q0,hq0,rfl⟩:=List.mem_map.1 hq
   have hi:=cI q0 hq0
   refine⟨by simpa using hi, ?_⟩
   obtain⟨cs,h1,h2⟩:=jS q0.1 _ (eY q0.1 hi)
   obtain⟨h3,h4⟩:=hlen _ _ _ (eY q0.1 hi) h1
   rcases h2 with⟨q,q8,hm⟩ |⟨q8,_⟩
   ·rw[QH q0.1 q0 hq0 rfl] at q8
    injection q8 with q8
    subst q8
    rw[gL hm h4]
    simp[h3,lQ]
   ·rw[QH q0.1 q0 hq0 rfl] at q8;cases q8) (by simpa[List.map_map,Function.comp_def] using Ch)]
 congr 3
 unfold GJ
 apply List.ext_getElem?
 intro k
 rw[List.getElem?_mapIdx]
 by_cases hk:k<l.length
 ·simp only[List.getElem?_map,eY k hk,Option.map_some]
  obtain⟨cs,h1,h2⟩:=jS k _ (eY k hk)
  obtain⟨h3,h4⟩:=hlen _ _ _ (eY k hk) h1
  rw[h1]
  rw[List.find?_map]
  simp only[Function.comp_def]
  rcases h2 with⟨q,q8,hm⟩ |⟨q8,he⟩
  ·rw[q8]
   simp only[Option.map_some,Option.getD_some]
   rw[gL hm h4]
  ·rw[q8]
   simp[he]
 ·rw[List.getElem?_eq_none (by simpa using hk),List.getElem?_eq_none (by omega)]
  rfl
end Go.Pv
namespace Go.Pv
set_option linter.unusedVariables false
set_option linter.unusedSimpArgs false
variable {P:Program} {w w':World} {A A' Wr:Nat→Prop} {H:Nat→Value} {tm o7:Nat→Value} {S S' S1:St} {σ bK du:Nat→Option Nat} {w0:World} {W0 Z:Nat→Prop} {a:Act} {own:Nat→Prop} {v:Value} {Θ:cK} {dst:Option Nat}
theorem Yj {ow:Nat→Prop} {τ:Nat→Nat}:∀ (l:List TV) (eD:List (List Value)) (j:Nat),eD.length=l.length→
  (∀ (k:Nat) (b:TV),l[k]? =some b→∃ cs,eD[k]? =some cs∧M w A H b.t b.m b.x cs (fun g=>ow g∧τ g=j+k) [])→
  M w A H (BE l).t (BE l).m (BE l).x eD.flatten (fun g=>ow g∧j≤τ g) []
 |[],eD,j,hl,_=>by
  obtain rfl:eD=[]:=List.eq_nil_of_length_eq_zero (by simpa using hl)
  simp[BE,M,K,Md.bQ]
 |[a],eD,j,hl,h=>by
  obtain⟨cs,h1,h2⟩:=h 0 a rfl
  match eD,hl with
  |[c],_=>
   simp only[List.getElem?_cons_zero,Option.some.injEq] at h1
   subst h1
   simp only[BE,List.flatten_cons,List.flatten_nil,List.append_nil]
   exact aN (a6.refl _ _) _ (fun _ _ _=>rfl) (fun g hg _=>⟨hg.1,by rw[hg.2];omega⟩) (fun _ h=>h) h2
 |a::b::r,eD,j,hl,h=>by
  match eD,hl with
  |c::cs,hl=>
   obtain⟨c',h1,h2⟩:=h 0 a rfl
   simp only[List.getElem?_cons_zero,Option.some.injEq] at h1
   subst h1
   have ih:=Yj (ow:=ow) (τ:=τ) (b::r) cs (j+1) (by simpa using hl) (fun k b' hk=>by
    obtain⟨c',h1,h2⟩:=h (k+1) b' (by simpa using hk)
    exact⟨c',by simpa using h1,aN (a6.refl _ _) _ (fun _ _ _=>rfl) (fun g hg _=>⟨hg.1,by rw[hg.2];omega⟩) (fun _ h=>h) h2⟩)
   simp only[BE,List.flatten_cons]
   refine s5 (s:=fun g=>τ g=j) ?_ ?_
   ·exact aN (a6.refl _ _) _ (fun _ _ _=>rfl) (fun g hg _=>⟨⟨hg.1,by rw[hg.2];omega⟩,by rw[hg.2];rfl⟩) (fun _ h=>by simp at h) h2
   ·exact aN (a6.refl _ _) _ (fun _ _ _=>rfl) (fun g hg _=>⟨⟨hg.1,by omega⟩,by omega⟩) (fun _ h=>by simp at h) ih
theorem Kv {ow:Nat→Prop} {τ:Nat→Nat} {l:List TV} {eD:List (List Value)} (hl:eD.length=l.length)
  (h:∀ (k:Nat) (b:TV),l[k]? =some b→∃ cs,eD[k]? =some cs∧M w A H b.t b.m b.x cs (fun g=>ow g∧τ g=0+k) []):
  M w A H (dw l).t (dw l).m (dw l).x eD.flatten ow []:=by
 have h0:=Yj (ow:=ow) (τ:=τ) l eD 0 hl h
 have h1:M w A H (BE l).t (BE l).m (BE l).x eD.flatten ow []:=aN (a6.refl _ _) _ (fun _ _ _=>rfl) (fun g hg _=>hg.1) (fun _ h=>h) h0
 cases l with
 |nil=>exact h1
 |cons a r=>
  cases r with
  |cons b r=>exact h1
  |nil=>
   have:M w A H (.pair a.t .unit) (XY a.m .k) (a.x,()) (eD.flatten++[]) ow []:=s5 (s:=fun _=>True) (aN (a6.refl _ _) _ (fun _ _ _=>rfl) (fun g hg _=>⟨hg,trivial⟩) (fun _ h=>by simp at h) h1) (by simp[M,K,Md.bQ])
   rw[List.append_nil] at this
   exact this
theorem MC:∀ (l:List TV) (k:Nat) (h:k<l.length),fB (if k+1=l.length then List.replicate k .snd else List.replicate k .snd++[.fst]) (BE l).t=some l[k].t∧
  aE (if k+1=l.length then List.replicate k .snd else List.replicate k .snd++[.fst]) (BE l).t=ny (l.map fun b=>zc b.t) k
 |[a],k,h=>by
  obtain rfl:k=0:=by simpa using h
  simp[BE,fB,aE,ny]
 |a::b::r,0,h=>by simp[BE,fB,aE,ny]
 |a::b::r,k+1,h=>by
  obtain⟨h1,h2⟩:=MC (b::r) k (by simpa using h)
  have e:(if k+1+1=(a::b::r).length then List.replicate (k+1) Step.snd else List.replicate (k+1) .snd++[.fst])=.snd::(if k+1=(b::r).length then List.replicate k Step.snd else List.replicate k .snd++[.fst]):=by
   simp only[List.length_cons]
   by_cases hk:k=r.length
   ·rw[if_pos (by omega),if_pos (by omega)];rfl
   ·rw[if_neg (by omega),if_neg (by omega)];rfl
  rw[e]
  simp only[BE,fB,aE]
  refine⟨h1, ?_⟩
  rw[h2]
  simp only[List.map_cons,ny,List.take_succ_cons,List.map_cons,List.sum_cons,lQ]
theorem DH (l:List TV) (k:Nat) (h:k<l.length):fB (mm k l.length) (dw l).t=some l[k].t∧aE (mm k l.length) (dw l).t=ny (l.map fun b=>zc b.t) k:=by
 match l,h with
 |[a],h=>
  obtain rfl:k=0:=by simpa using h
  simp[dw,mm,fB,aE,ny]
 |a::b::r,h=>
  have:=MC (a::b::r) k h
  have e:mm k (a::b::r).length=if k+1=(a::b::r).length then List.replicate k .snd else List.replicate k .snd++[.fst]:=by
   unfold mm
   by_cases hk:k+1=(a::b::r).length
   ·have h1:Nat.beq (k+1) (a::b::r).length=true:=by rw[←hk];exact Nat.beq_refl _
    rw[if_pos hk,h1]
    have:Nat.beq (a::b::r).length 1=false:=by
     simp only[List.length_cons]
     rfl
    rw[this]
    rfl
   ·rw[if_neg hk]
    have:Nat.beq (k+1) (a::b::r).length=false:=by
     cases hb:Nat.beq (k+1) (a::b::r).length with
     |false=>rfl
     |true=>exact absurd (Nat.eq_of_beq_eq_true hb) hk
    rw[this]
    rfl
  rw[e]
  exact this
theorem GK (l:List TV):zc (dw l).t=(l.map fun b=>zc b.t).flatten:=by
 have h:∀ l:List TV,zc (BE l).t=(l.map fun b=>zc b.t).flatten:=by
  intro l
  induction l with
  |nil=>simp[BE,zc]
  |cons a r ih=>
   cases r with
   |nil=>simp[BE]
   |cons b r=>simp only[BE,zc,List.map_cons,List.flatten_cons];rw[ih];simp
 unfold dw
 split
 ·simp[zc]
 ·exact h l
theorem mapM_some {α β:Type} {g:α→Option β} {h:α→β}:∀ (l:List α),(∀ f∈l,g f=some (h f))→l.mapM g=some (l.map h)
 |[],_=>by simp
 |f::r,hf=>by
  rw[List.mapM_cons,hf f (by simp),mapM_some r fun f hf'=>hf f (by simp[hf'])]
  rfl
theorem GL (hT:cM P Θ=true) (h:bd σ w0 W0 Z H S a w) {o:Oper} {T:TypeId} {ps:Array (Nat×Operand)} (ho:o.op=.build T ps) (e:xG Θ S o.dst T ps.toList=some (true,S')):jR P w0 W0 Z H S' a o.dst w (execOp a.eval o):=by
 unfold xG at e
 split at e
 case h_2=>cases e
 rename_i i hi
 split at e
 case h_2=>cases e
 rename_i l S1 hl
 cases hc:(decide ((dw l).t=i.ty)&&xG.P7 i.ty&&ja l.length ps.toList) with
 |false=>rw[hc] at e;cases e
 |true=>
 rw[hc] at e
 simp only[cond_true,Option.some.injEq,Prod.mk.injEq,true_and] at e
 simp only[Bool.and_eq_true,decide_eq_true_eq] at hc
 obtain⟨⟨eQ,Yk⟩,JP⟩:=hc
 obtain⟨bK,ow,τ,eD,h1,hn,hk,l9,hll,hj,iG⟩:=od hT ps.toList i.fs 0 h hl
 obtain⟨⟨_,inf,z,k1,k2,_,_,_,k3,k4⟩,hu,rfl⟩:=cO hT hi
 obtain⟨pa,pb,hpp⟩:∃ pa pb,i.ty=.pair pa pb:=by
  cases QT:i.ty<;>rw[QT] at Yk<;>first |exact⟨_,_,rfl⟩ |cases Yk
 obtain⟨fs,f1,f2,f3,_⟩:=lN hu hpp
 have Cw:fs.toList.length=l.length:=by rw[hll, ←f2,List.length_map]
 have hM:M w (Av σ Z) H (dw l).t (dw l).m (dw l).x eD.flatten ow []:=Kv l9 (fun k b hb=>by obtain⟨cs,c1,c2,_⟩:=iG k b hb;exact⟨cs,c1,c2⟩)
 have WS:∀ f∈fs.toList,(P.info? f.type).map (fun i=>(f.offset,i.size))=some (f.offset,P.cellsOf f.type):=by
  intro f hf
  obtain⟨k,hk,rfl⟩:=List.mem_iff_getElem.1 hf
  obtain⟨t,_,ht,_⟩:=gQ f3 k _ (List.getElem?_eq_getElem hk)
  obtain⟨ajX,i1,i2,i3⟩:=gD hT ht
  rw[i1,Option.map_some,i2,i3]
 have QU:=yY (a:=a) (ps:=ps.toList) (l:=l) (eD:=eD) (place:=fun k=>(fs.toList.map fun f=>(f.offset,P.cellsOf f.type)).toArray[k]?) l9 JP (fun k b cs hb jS=>by
   obtain⟨cL,c1,c2,_⟩:=iG k b hb
   rw[c1] at jS
   injection jS with jS
   subst jS
   exact eS _ c2) (fun k b hb=>by
   obtain⟨cL,c1,_,c3⟩:=iG k b hb
   simp only[Nat.zero_add] at c3
   exact⟨cL,c1,c3⟩) (fun k hk=>by
   obtain⟨q1,q2⟩:=DH l k hk
   obtain⟨t,t1,t2,t3,_⟩:=gQ f3 k (fs.toList[k]'(by omega)) (List.getElem?_eq_getElem (by omega))
   have O9:fs.size=l.length:=by rw[←Cw,Array.length_toList]
   rw[Nat.zero_add, ←eQ,O9] at t1 t3
   rw[q1] at t1
   injection t1 with t1
   subst t1
   obtain⟨_,_,_,c3⟩:=gD hT t2
   rw[q2] at t3
   simp only[List.getElem?_toArray,List.getElem?_map,List.getElem?_eq_getElem (show k<fs.toList.length by omega),Option.map_some,c3,t3])
 have aa6:P.built i.T (ps.map fun(j,x)=>(j,a.eval x)).toList=some eD.flatten.toArray:=by
  unfold Program.built
  have hz:z.cells=(l.map fun b=>zc b.t).flatten.toArray:=by
   rw[←GK,eQ]
   have Kc:isAgg i.ty=true:=by rw[hpp];rfl
   unfold an at k4
   rw[if_pos Kc] at k4
   rw[k4]
   rfl
  rw[k1,f1]
  simp only[k3,mapM_some _ WS,hz]
  rw[Array.toList_map]
  exact QU
 have cQ:=fun w=>run_build (P:=P) w i.T _ _ aa6
 rw[←e]
 have fq:∀ w2,(execOp a.eval o).run P w2=.ok (.value (.agg eD.flatten.toArray)) w2:=fun w2=>by
  simp only[execOp,ho,Sem.run_bind,cQ w2,Result.andThen_ok]
  rfl
 refine(nw (b:=dw l) (cs:=eD.flatten) (v:=.agg eD.flatten.toArray) h1 hk hn (fun w2 _=>fq w2) ?_ hM).still fq
 ·unfold an
  rw[if_pos (by rw[eQ,hpp];rfl)]
end Go.Pv
