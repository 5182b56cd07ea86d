/- A verified evaluator of the program's form over pure values, part 4: what it tells of a function holds. -/
import Derived.Test.YtpcoilhcgcpjmaaGreatDoorPv3
import Derived.Below
import Derived.Carry
import Derived.ChangeMaps5
import Derived.Lib.Bytealg
import Derived.Lib.IndexBytes
import Derived.Lib.IndexMore
import Derived.Lib.ItoaNum
import Derived.Lib.Join
import Derived.Lib.Split
import Derived.Lib.SplitLaws
import Derived.OrdersHeld
import GoSem.ClaimChange
set_option linter.unusedSimpArgs false
set_option linter.unusedVariables false
namespace Go.Pv
open List Int IntKind
abbrev qx:= @Array.getElem?_eq_none
abbrev eR:= @List.pairwise_append
abbrev ll:= @Nat.eq_of_testBit_eq
abbrev zw:= @Nat.left_le_or
abbrev oa:= @Nat.or_assoc
abbrev sL:= @Nat.pow_le_pow_right
abbrev dC:= @Nat.testBit_and
abbrev bh:= @Nat.testBit_or
abbrev gg:= @Nat.testBit_two_pow_sub_one
abbrev nK:= @Nat.testBit_xor
abbrev fL:= @Nat.zero_le
abbrev vl:= @Nat.zero_testBit
abbrev nM:= @Go.Oper.upon_value
abbrev qy:= @Go.Region.noSelect_spec
abbrev ia:= @decide_eq_decide
abbrev af:= @decide_eq_true
abbrev zx:= @decide_false
abbrev xi:= @Go.getD_set_ne
abbrev kJ:= @Go.mem_ready
abbrev pM:= @Go.ready_mono
abbrev mK:= @Go.wpOp_mono
end Go.Pv
namespace Go.Pv
open List Int IntKind
variable {Γ:Gl} {P:Program} {w w':World} {A A' Wr:Nat->Prop} {H:Nat->Value} {tm N':Nat->Value} {S S' S1:St} {σ eo lU:Nat->Option Nat} {w0:World} {W0 Z:Nat->Prop} {a:Act} {own:Nat->Prop} {v:Value} {Θ:kR} {dst:Option Nat} {O:va} {hh:Hint} {Q:Exit->Act->World->Prop} {K:St->aa} {ret:iI}
def adz (w0:World) (W0 Z:Nat->Prop) (H:Nat->Value) (K:St->aa) (ret:iI) (a:Act) (w:World):Prop:=∃ S,K S=some ret/\Rel w0 W0 Z H S a w
theorem afG {o:Oper} {c:Call} {f:FuncId} {Vx:List Value} (ho:o.op=.call c) (hc:∃ x,c.callee=.value x/\a.eval x=.func (.func f) #[] Vx.toArray) {R:Value->World->Prop} (hd:ahN P f (c.args.toList.map a.eval++Vx) w R) {N:Act->World->Prop} (hN:∀ v w',R v w'->N (a.put o.dst v) w'):o.wp P a w N Q:=by
 obtain⟨x,hx,hv⟩:=hc;have iu:(execOp a.eval o).run P w=(callFunc f (c.args.toList.map a.eval++Vx).toArray).run P w:=by simp only[execOp,ho,resolve,hx,Deferred.ofValue,hv,aZ,cW,aV,invoke];congr 2;apply hY.1;simp
 unfold Oper.wp;rw[iu];rcases hd with⟨h1,h2⟩ |⟨v,w',h1,h2⟩
 ·rw[h1,Oper.upon_enter];refine h2.mono λe w' he=>?_;cases e with
  |returned v=>exact hN _ _ he
  |panicked c=>exact he.elim
  |outgrown=>exact he.elim
 rw[h1,nM];exact hN _ _ h2
theorem aeo {f:FuncId} {c:Call} (hc:c.callee=.value (.func f)) (h:ZQ O (.call c)=true):∀ p∈O.sig f,p=.val:=by obtain⟨callee,args,ats⟩:=c;simp only at hc;subst hc;simp only[ZQ,aJ] at h;intro p hp;have:=h p hp;cases p<;>first |rfl |cases this
theorem akC {op:Op} (h:quiet op=true):ahL op=true:=by unfold ahL;split<;>first |rfl |exact h
theorem abk:∀ (l:List Pass) (n:Nat) {j:Nat},To l n=some j->¬ ∀ p∈l,p=.val
 |[],n,j,h,_=>by cases h
 | .OU::r,n,j,h,hv=>by have:=hv .OU (by simp);cases this
 | .val::r,n,j,h,hv=>abk r (n+1) (by simpa[To] using h) (λp hp=>hv p (by simp[hp]))
 | .take::r,n,j,h,hv=>by have:=hv .take (by simp);cases this
theorem aqF (hT:kh P hh.tab=true) (h:cY σ w0 W0 Z H S a w) {T:TypeId} {x:Operand} {eq:Bool} {dst:Option Nat} (e:amo hh dst T eq x S K=some ret): (∃ A n c,a.eval x=.slice A n c)/\∃ q,(binOp (bif eq then .eql else .neq) T (a.eval x) (.slice none 0 0)).run P w=.ok (.bool q) w/\∃ S',K S'=some ret/\Rel w0 W0 Z H S' (a.put dst (.bool q)) w:=by
 unfold amo at e;split at e;case h_2=>cases e
 rename_i t m xs hx;cases Tw:hh.tab.is T (.sl t) with
 |false=>rw[Tw] at e;cases e
 |true=>rw[Tw] at e;simp only[ab] at e;obtain⟨cs,h1,h2,_⟩:=qi h hx;simp only[Go.Pv.K] at h2;obtain⟨A,c,rfl,hc,X6⟩:=h2;have hv:a.eval x=.slice A (length xs) c:=(by simpa[a6,isAgg] using h1.symm);obtain⟨i,hi,rH⟩:=ph Tw;obtain⟨_,hu,hTT⟩:=kV hT hi;obtain⟨u1,_,_⟩:=F9 hu rH;rw[hTT] at u1;have lT:∀ d,(Op.equalIn (d+1) T (.slice A (length xs) c) (.slice none 0 0)).run P w=.ok A.isNone w:=λd=>(by simp only[Op.equalIn,aZ,a7 u1,aV];cases A<;>simp);have iu:(Op.equal T (a.eval x) (.slice none 0 0)).run P w=.ok A.isNone w:=(by rw[hv];exact lT 9999);have hq:(binOp (bif eq then .eql else .neq) T (a.eval x) (.slice none 0 0)).run P w=.ok (.bool (bif eq then A.isNone else !A.isNone)) w:=(by cases eq<;>simp[binOp,iu]);refine⟨⟨A,_,c,hv⟩,_,hq,?_⟩;have put:∀ q:Bool,Rel w0 W0 Z H (S.put dst (.v ⟨.bool,.k,q⟩ [])) (a.put dst (.bool q)) w:=λq=>⟨_,h.pure (kW q)⟩;cases ayj:List.isEmpty xs with
 |true=>
  rw[ayj] at e;simp only[ab] at e;obtain⟨e1,e2⟩:=an' e;cases hb:(bif eq then A.isNone else !A.isNone) with
  |true=>exact⟨_,e1,put true⟩
  |false=>exact⟨_,e2,put false⟩
 |false=>
 rw[ayj] at e;simp only[ae] at e;have hp:0<length xs:=by
  cases xs with
  |nil=>simp at ayj
  |cons _ _=>simp
 obtain⟨g,off,cur,T',fr,rfl,_⟩:=X6 hp;cases eq with
 |true=>exact⟨_,e,put false⟩
 |false=>exact⟨_,e,put true⟩
theorem aAW (hT:kh P hh.tab=true) (hO:LM Γ P O w0 W0) (h:cY σ w0 W0 Z H S a w) {o:Oper} (e:xe hh O o S K=some ret): o.wp P a w (λa' w'=>adz w0 W0 Z H K ret a' w'/\(ZQ O o.op=true->Ext w w')) Q:=by
 unfold xe at e;split at e
 ·rename_i f as ts ho;split at e
  ·rename_i j hj;have hd:=auY hT hO h e;rw[←b6 (as.toList.map a.eval)] at hd;refine afG ho (Vx:=[]) ⟨_,rfl,by simp[Act.eval]⟩ hd ?_;intro v w' ⟨S',h1,h2⟩;exact⟨⟨S',h1,h2⟩,λhx=>absurd (aeo rfl (by rw[ho] at hx;exact hx)) (abk _ _ hj)⟩
  refine afG ho (Vx:=[]) ⟨_,rfl,by simp[Act.eval]⟩ (amK hT hO h (.inl ⟨rfl,rfl⟩) e) ?_;intro v w' ⟨S',h1,h2,h3⟩;exact⟨⟨S',h1,h2⟩,λhx=>h3 (aeo rfl (by rw[ho] at hx;exact hx))⟩
 ·rename_i i as ts ho;split at e;case h_2=>cases e
  rename_i f kn nI;have hold:=h.holds i;rw[nI] at hold;obtain⟨vs,v1,v2,v3⟩:=hold;refine afG ho (Vx:=vs) ⟨_,rfl,v1⟩ (amK hT hO h (.inr ⟨i,rfl,v1⟩) e) ?_;intro v w' ⟨S',h1,h2,h3⟩;refine⟨⟨S',h1,h2⟩,λhx=>?_⟩;rw[ho] at hx;cases hx
 ·rename_i T x T' ho;obtain⟨⟨A,n,c,hv⟩,q,hq,S',hS,hR⟩:=aqF hT h (eq:=true) e;unfold Oper.wp;have hr:(execOp a.eval o).run P w=.ok (.value (.bool q)) w:=by have OV:(binOp .eql T (a.eval x) (a.eval (.const (.slice none 0 0)))).run P w=.ok (.bool q) w:=hq;have hg:(eqGuard .eql T x (.const (.slice none 0 0)) (a.eval x) (a.eval (.const (.slice none 0 0)))).run P w=.ok () w:=(by rw[hv];simp[eqGuard,Act.eval]);simp only[execOp,ho,aZ];rw[hg];simp only[aV];rw[OV];rfl
  rw[hr,nM];exact⟨⟨S',hS,hR⟩,λ_=>Ext.refl w⟩
 ·rename_i T x T' ho;obtain⟨⟨A,n,c,hv⟩,q,hq,S',hS,hR⟩:=aqF hT h (eq:=false) e;unfold Oper.wp;have hr:(execOp a.eval o).run P w=.ok (.value (.bool q)) w:=by have OV:(binOp .neq T (a.eval x) (a.eval (.const (.slice none 0 0)))).run P w=.ok (.bool q) w:=hq;have hg:(eqGuard .neq T x (.const (.slice none 0 0)) (a.eval x) (a.eval (.const (.slice none 0 0)))).run P w=.ok () w:=(by rw[hv];simp[eqGuard,Act.eval]);simp only[execOp,ho,aZ];rw[hg];simp only[aV];rw[OV];rfl
  rw[hr,nM];exact⟨⟨S',hS,hR⟩,λ_=>Ext.refl w⟩
 rename_i n1 n2 n3 n4;split at e;case h_2=>cases e
 rename_i g S1 hev;cases g with
 |false=>cases e
 |true=>
 simp only[ab] at e;by_cases aAX:ahL o.op=true
 ·obtain⟨w',v,r1,r2,r3⟩:=aqw hT h aAX hev;unfold Oper.wp;rw[r1,nM];exact⟨⟨S1,e,r3⟩,λ_=>r2⟩
 obtain⟨w',v,r1,r3⟩:=aAU hT h hev;have hna: ¬ZQ O o.op=true:=λhx=>by apply aAX;revert hx n1;generalize o.op=op;intro n1 hx;unfold ZQ at hx;split at hx<;>first |rfl |(exact absurd rfl (n1 _ _ _)) |exact akC hx
 unfold Oper.wp;rcases r1 with r1 |⟨rfl,r1⟩
 ·rw[r1,nM];exact⟨⟨S1,e,r3⟩,λhx=>absurd hx hna⟩
 rw[r1,Oper.upon_skip];exact⟨⟨S1,e,r3⟩,λhx=>absurd hx hna⟩
end Go.Pv
namespace Go.Pv
open List Int IntKind
variable {Γ:Gl} {P:Program} {w w':World} {A A' Wr:Nat->Prop} {H:Nat->Value} {tm N':Nat->Value} {S S' S1:St} {σ eo lU:Nat->Option Nat} {w0:World} {W0 Z:Nat->Prop} {a:Act} {own:Nat->Prop} {v:Value} {Θ:kR} {dst:Option Nat} {O:va} {hh:Hint} {Q:Exit->Act->World->Prop} {ret:iI} {ops:Array Oper}
theorem cY.less (h:cY σ w0 W0 Z H S a w) (hl:S'.length=S.length) (hs:∀ i,S'.at i=.dead∨(S'.at i=S.at i/\∀ s,(S.at i).refs s=true->S'.at s=S.at s)):cY σ w0 W0 Z H S' a w:=by
 refine⟨by rw[hl];exact h.len,h.defers,h.fr,h.new,h.lt,h.old,λi=>?_⟩;rcases hs i with hi |⟨hi,hr⟩
 ·rw[hi];trivial
 rw[hi];exact(h.holds i).kept (cN.refl _ _) (λg hg _=>⟨rfl,hg⟩) (λs hs=>⟨λr ex he=>by rw[hr s hs];exact he,rfl,_,h.holds s,λ_ _ _=>rfl⟩)
theorem aoG (h:Rel w0 W0 Z H S a w):Rel w0 W0 Z H (adV S) a w:=by
 obtain⟨σ,h⟩:=h;have nI:∀ i,(adV S).at i=match S.at i with
  | .al t s []=>.al t s []
  | .al ..=>.dead
  | .ad ..=>.dead
  | .cut ..=>.dead
  |a=>a:=λi=>aaQ S _ rfl i
 have hv:∀ s r ex,S.at s=.v r ex->(adV S).at s=.v r ex:=λs r ex he=>by rw[nI s,he]
 refine⟨σ,⟨by unfold adV;rw[aY];exact h.len,h.defers,h.fr,h.new,h.lt,h.old,λi=>?_⟩⟩;have hi:=(h.holds i).kept (S':=adV S) (cN.refl w (Av σ Z)) (λg hg _=>⟨rfl,hg⟩) (λs _=>⟨λr ex he=>hv s r ex he,rfl,_,h.holds s,λ_ _ _=>rfl⟩);rw[nI i];split<;>first |trivial |(rename_i he;rw[he] at hi;exact hi) |exact hi
theorem Zp (ks:List Nat):∀ (S:St) (i:Nat),(QW ks i S).length=S.length
 |[],_=>rfl
 |_::r,i=>by simp only[QW,ak,Zp ks r]
theorem TD (ks:List Nat):∀ (S:St) (i j:Nat),(QW ks i S).at j=S.at j∨((QW ks i S).at j=.dead/\(S.at j).UX=false)
 |[],_,_=>.inl rfl
 |a::r,i,0=>by
  show(bif Tp ks i then a else _)=a∨((bif Tp ks i then a else _)=AV.dead/\a.UX=false);cases Tp ks i with
  |true=>exact .inl rfl
  |false=>simp only[ae];split<;>first |exact .inl rfl |exact .inr ⟨rfl,rfl⟩
 |a::r,i,j+1=>TD ks r (i+1) j
theorem akD (ks:List Nat) (h:Rel w0 W0 Z H S a w):Rel w0 W0 Z H (aaK ks S) a w:=by
 cases ks with
 |nil=>exact aoG h
 |cons k ks=>
 obtain⟨σ,h⟩:=h;refine⟨σ,h.less (Zp _ S 0) λi=>?_⟩;rcases TD (k::ks) S 0 i with hi |⟨hi,_⟩
 ·refine .inr ⟨hi,λs hs=>?_⟩;rcases TD (k::ks) S 0 s with hj |⟨_,hj⟩
  ·exact hj
  rw[apH (h.holds i) hs] at hj;cases hj
 exact .inl hi
theorem abl:∀ (cs:List CK) (S:List Cap) {x:aaI cs},Po cs S=some x->Ia cs x=S
 |[],[],x,_=>rfl
 |[],_::_,x,e=>by simp[Po] at e
 | .kv _::r,[],x,e=>by simp[Po] at e
 | .pl _ _ _::r,[],x,e=>by simp[Po] at e
 | .kv t::r,.pl _ _ _::S,x,e=>by simp[Po] at e
 | .pl _ _ _::r,.kv _::S,x,e=>by simp[Po] at e
 | .kv t::r,.kv b::S,x,e=>by
  obtain⟨bt,bm,bx⟩:=b;simp only[Po] at e;split at e;case isFalse=>cases e
  rename_i ht;subst ht;split at e;case isFalse=>cases e
  rename_i hm;subst hm;split at e;case h_2=>cases e
  rename_i y hy;injection e with e;subst e;simp[Ia,abl r S hy]
 | .pl t s p::r,.pl t' s' p'::S,x,e=>by
  simp only[Po] at e;split at e;case isFalse=>cases e
  rename_i ht;subst ht;cases hb:Nat.beq s' s with
  |false=>rw[hb] at e;cases e
  |true=>
  rw[hb] at e;simp only[ab] at e;have:=aw hb;subst this;split at e;case isFalse=>cases e
  rename_i hp;subst hp;simp[Ia,abl r S e]
theorem Q4:∀ (ks:List Kd) (S:St) {x:Ff ks},proj ks S=some x->(shape ks x).length=S.length/\∀ i,(shape ks x).at i=.dead∨((shape ks x).at i=S.at i/\((∃ t m y,ks[i]?=some (.v t m)/\S.at i=.v ⟨t,m,y⟩ [])∨(∃ t s,ks[i]?=some (.al t s)/\S.at i=.al t s [])∨∃ f cs y,ks[i]?=some (.EL f cs)/\S.at i=.EL f (Ia cs y)))
 |[],[],x,_=>⟨rfl,λi=>.inl rfl⟩
 |[],_::_,x,e=>by simp[proj] at e
 | .dead::r,[],x,e=>by simp[proj] at e
 | .v _ _::r,[],x,e=>by simp[proj] at e
 | .al _ _::r,[],x,e=>by simp[proj] at e
 | .EL _ _::r,[],x,e=>by simp[proj] at e
 | .EL f cs::r,a::S,x,e=>by
  cases a with
  |EL f' kn=>
   simp only[proj] at e;cases hb:Nat.beq f' f with
   |false=>rw[hb] at e;cases e
   |true=>
   rw[hb] at e;simp only[ab] at e;have:=aw hb;subst this;split at e;case h_2=>cases e
   rename_i y z hy hz;injection e with e;subst e;obtain⟨h1,h2⟩:=Q4 r S hz;have hc:=abl cs kn hy;refine⟨by simp[shape,h1],λi=>?_⟩;cases i with
   |zero=>exact .inr ⟨by simp[shape,St.at,hc],.inr (.inr ⟨_,_,y,rfl,by simp[St.at,hc]⟩)⟩
   |succ i=>exact h2 i
  |_=>simp[proj] at e
 | .dead::r,a::S,x,e=>by
  simp only[proj] at e;obtain⟨h1,h2⟩:=Q4 r S e;refine⟨by simp[shape,h1],λi=>?_⟩;cases i with
  |zero=>exact .inl rfl
  |succ i=>exact h2 i
 | .v t m::r,a::S,x,e=>by
  cases a with
  |v b ex=>
   cases ex with
   |cons _ _=>simp[proj] at e
   |nil=>
   obtain⟨bt,bm,bx⟩:=b;simp only[proj] at e;split at e;case isFalse=>cases e
   rename_i ht;subst ht;split at e;case isFalse=>cases e
   rename_i hm;subst hm;split at e;case h_2=>cases e
   rename_i y hy;injection e with e;subst e;obtain⟨h1,h2⟩:=Q4 r S hy;refine⟨by simp[shape,h1],λi=>?_⟩;cases i with
   |zero=>exact .inr ⟨rfl,.inl ⟨_,_,_,rfl,rfl⟩⟩
   |succ i=>exact h2 i
  |_=>simp[proj] at e
 | .al t s::r,a::S,x,e=>by
  cases a with
  |al t' s' p=>
   cases p with
   |cons _ _=>simp[proj] at e
   |nil=>
   simp only[proj] at e;split at e;case isFalse=>cases e
   rename_i ht;subst ht;cases hb:Nat.beq s' s with
   |false=>rw[hb] at e;cases e
   |true=>
   rw[hb] at e;simp only[ab] at e;have:=aw hb;subst this;obtain⟨h1,h2⟩:=Q4 r S e;refine⟨by simp[shape,h1],λi=>?_⟩;cases i with
   |zero=>exact .inr ⟨rfl,.inr (.inl ⟨_,_,rfl,rfl⟩)⟩
   |succ i=>exact h2 i
  |_=>simp[proj] at e
theorem X8:∀ (ks:List Kd) (S:St) {x:Ff ks},proj ks S=some x->∀ (i:Nat) (t:Ty) (m:Md),ks[i]?=some (Kd.v t m)->(shape ks x).at i=S.at i
 |[],_,x,_,i,t,m,hi=>by simp at hi
 | .dead::r,[],x,e,_,_,_,_=>by simp[proj] at e
 | .v _ _::r,[],x,e,_,_,_,_=>by simp[proj] at e
 | .al _ _::r,[],x,e,_,_,_,_=>by simp[proj] at e
 | .EL _ _::r,[],x,e,_,_,_,_=>by simp[proj] at e
 | .EL f cs::r,a::S,x,e,i,t,m,hi=>by
  cases i with
  |zero=>simp at hi
  |succ i=>
  cases a with
  |EL f' kn=>
   simp only[proj] at e;cases hb:Nat.beq f' f with
   |false=>rw[hb] at e;cases e
   |true=>
   rw[hb] at e;simp only[ab] at e;split at e;case h_2=>cases e
   rename_i y z hy hz;injection e with e;subst e;exact X8 r S hz i t m (by simpa using hi)
  |_=>simp[proj] at e
 | .dead::r,a::S,x,e,i,t,m,hi=>by
  simp only[proj] at e;cases i with
  |zero=>simp at hi
  |succ i=>exact X8 r S e i t m (by simpa using hi)
 | .v t0 m0::r,a::S,x,e,i,t,m,hi=>by
  cases i with
  |zero=>
  obtain⟨_,h2⟩:=Q4 _ _ e;rcases h2 0 with h |h
  ·simp only[shape] at h;cases h
  exact h.1
  |succ i=>
  cases a with
  |v b ex=>
   cases ex with
   |cons _ _=>simp[proj] at e
   |nil=>
   obtain⟨bt,bm,bx⟩:=b;simp only[proj] at e;split at e;case isFalse=>cases e
   rename_i ht;subst ht;split at e;case isFalse=>cases e
   split at e;case h_2=>cases e
   rename_i y hy;injection e with e;subst e;exact X8 r S hy i t m (by simpa using hi)
  |_=>simp[proj] at e
 | .al t0 s::r,a::S,x,e,i,t,m,hi=>by
  cases i with
  |zero=>simp at hi
  |succ i=>
  cases a with
  |al t' s' p=>
   cases p with
   |cons _ _=>simp[proj] at e
   |nil=>
   simp only[proj] at e;split at e;case isFalse=>cases e
   cases hb:Nat.beq s' s with
   |false=>rw[hb] at e;cases e
   |true=>rw[hb] at e;exact X8 r S e i t m (by simpa using hi)
  |_=>simp[proj] at e
theorem ahQ:∀ (all ks:List Kd),xd all ks=true->∀ (i:Nat) (t:Ty) (s:Nat),ks[i]?=some (Kd.al t s)->∃ t' m',all[s]?=some (Kd.v t' m')
 |all,[],_,i,t,s,hi=>by simp at hi
 |all,k::r,h,i,t,s,hi=>by
  cases i with
  |zero=>
  simp only[aD,ah] at hi;subst hi;simp only[xd,ai] at h;have:=h.1;split at this
  ·rename_i t' m' h';exact⟨t',m',h'⟩
  cases this
  |succ i=>refine ahQ all r ?_ i t s (by simpa using hi);cases k<;>simp only[xd,ai] at h<;>first |exact h |exact h.2
theorem aep:∀ (all ks:List Kd),xd all ks=true->∀ (i:Nat) (f:FuncId) (cs:List CK),ks[i]?=some (Kd.EL f cs)->∀ t s p,CK.pl t s p∈cs->∃ t' m',all[s]?=some (Kd.v t' m')
 |all,[],_,i,f,cs,hi=>by simp at hi
 |all,k::r,h,i,f,cs,hi=>by
  cases i with
  |zero=>
  simp only[aD,ah] at hi;subst hi;simp only[xd,ai,aJ] at h;intro t s p hc;have:=h.1 _ hc;simp only at this;split at this
  ·rename_i t' m' h';exact⟨t',m',h'⟩
  cases this
  |succ i=>refine aep all r ?_ i f cs (by simpa using hi);cases k<;>simp only[xd,ai] at h<;>first |exact h |exact h.2
theorem PH:∀ (cs:List CK) (y:aaI cs) (d:Nat),((Ia cs y).any λc=>match c with
  | .pl _ s _=>Nat.beq s d
  | .kv _=>false)=true->∃ t p,CK.pl t d p∈cs
 |[],y,d,h=>by simp[Ia] at h
 | .kv t::r,y,d,h=>by
  simp only[Ia,vG,eK] at h
  obtain⟨t',p,hm⟩:=PH r y.2 d h
  exact⟨t',p,er _ hm⟩
 | .pl t s p::r,y,d,h=>by
  simp only[Ia,vG,bd] at h
  rcases h with h |h
  ·have:=aw h
   subst this
   exact⟨t,p,lS ..⟩
  ·obtain⟨t',p',hm⟩:=PH r y d h
   exact⟨t',p',er _ hm⟩
theorem aqG (h:Rel w0 W0 Z H S a w) (i:Nat) (k:Kd):Rel w0 W0 Z H (auB S i k) a w:=by
 unfold auB;split;case h_2=>exact h
 rename_i t m;cases hk:m.eY with
 |true=>exact h
 |false=>
 simp only[ae];split;case h_2=>exact h
 rename_i t' s nI;split;case h_2=>exact h
 rename_i b S1 hb;obtain⟨σ,h⟩:=h;obtain⟨eo,cs,ow,h1,hm,hM,hkk,hn⟩:=rM (Θ:=[]) (T:=0) (x:=.tmp i) h (by simp only[St.pJ];rw[nI]) hb;let P0:Program:=default;obtain⟨v2,hr2,lU,h3⟩:=LG (P:=P0) (dst:=some i) (n:=S.length) (s:=(pure (Next.value (gM a i)):Sem Next)) h1 hkk hn (λw2 _=>rfl) hm hM;have hv2:=hr2 w (Ext.refl w);have e1:Next.value (gM a i)=Next.value v2:=by have:(Result.ok (Next.value (gM a i)) w:Result Next)=Result.ok (Next.value v2) w:=hv2;injection this
 injection e1 with e1;subst e1;rw[Ik] at h3;exact⟨lU,h3⟩
theorem abm:∀ (ks:List Kd) (i:Nat) {S:St},Rel w0 W0 Z H S a w->Rel w0 W0 Z H (aj5 ks i S) a w
 |[],_,_,h=>h
 |k::r,i,_,h=>abm r (i+1) (aqG h i k)
theorem JS (h:Rel w0 W0 Z H S a w) {ks:List Kd} (e:JL ks S=some S1):Rel w0 W0 Z H S1 a w:=by
 obtain⟨σ,h⟩:=abm ks 0 h;unfold JL at e;cases hk:xd ks ks with
 |false=>rw[hk] at e;cases e
 |true=>
 rw[hk] at e;simp only[ab] at e;split at e;case h_2=>cases e
 rename_i x Pf;injection e with e;subst e;obtain⟨h1,h2⟩:=Q4 ks _ Pf;refine⟨σ,h.less h1 λi=>?_⟩;rcases h2 i with hi |⟨hi,hx⟩
 ·exact .inl hi
 refine .inr ⟨hi,λs hs=>?_⟩;rcases hx with⟨t,m,y,_,h3⟩ |⟨t,s',hk1,h3⟩ |⟨f,cs,y,hk1,h3⟩
 ·rw[h3] at hs;cases hs
 ·rw[h3] at hs;have:s'=s:=aw hs;subst this;obtain⟨t',m',h4⟩:=ahQ ks ks hk i t s' hk1;exact X8 ks _ Pf s' t' m' h4
 rw[h3] at hs;obtain⟨t',p,h5⟩:=PH cs y s hs;obtain⟨t',m',h4⟩:=aep ks ks hk i f cs hk1 _ _ _ h5;exact X8 ks _ Pf s t' m' h4
end Go.Pv
namespace Go.Pv
open List Int IntKind
variable {P:Program} {w w':World} {H:Nat->Value} {S S' S1:St} {σ eo:Nat->Option Nat} {w0:World} {W0 Z:Nat->Prop} {a:Act} {Θ:kR}
end Go.Pv
namespace Go.Pv
open List Int IntKind
variable {Γ:Gl} {P:Program} {w w':World} {A A' Wr:Nat->Prop} {H:Nat->Value} {tm N':Nat->Value} {S S' S1:St} {σ eo lU:Nat->Option Nat} {w0:World} {W0 Z:Nat->Prop} {a:Act} {own:Nat->Prop} {v:Value} {Θ:kR} {dst:Option Nat} {O:va} {hh:Hint} {Q:Exit->Act->World->Prop} {K:St->aa} {ret:iI} {ops:Array Oper}
theorem aqH {i:Nat} (h:cY σ w0 W0 Z H S a w) (hi:i<S.length):a.tmps[i]?=some (gM a i):=by
 have hl:i<a.tmps.size:=by rw[←h.len];exact hi
 unfold gM;rw[eW,db hl];rfl
theorem akE (h:cY σ w0 W0 Z H S a w) {j d:Nat} {m:Md} {q:Bool} {ex:List Path} (hd:(ops[j]?).bind (·.dst)=some d) (nI:S.at d=.v ⟨.bool,m,q⟩ ex):yielded ops a.tmps j=some q/\gM a d=.bool q:=by have hl:=qs (S:=S) (i:=d) (by rw[nI];exact λe=>by cases e);have hh:=h.holds d;rw[nI] at hh;obtain⟨cs,h1,h2⟩:=hh;simp only[M] at h2;have hv:=lQ h1 h2.2;refine⟨?_,hv⟩;unfold yielded;rw[hd,aI,aqH h hl,hv]
theorem ahR (h:cY σ w0 W0 Z H S a w) {j d:Nat} (hd:(ops[j]?).bind (·.dst)=some d) (nI:S.at d=.undef):yielded ops a.tmps j=none:=by have hl:=qs (S:=S) (i:=d) (by rw[nI];exact λe=>by cases e);have hh:=h.holds d;rw[nI] at hh;have hv:gM a d=undef:=hh;unfold yielded;rw[hd,aI,aqH h hl,hv];rfl
theorem Rel.undef (h:cY σ w0 W0 Z H S a w) (dst:Option Nat):Rel w0 W0 Z H (S.put dst .undef) (a.put dst Go.undef) w:=⟨_,h.pure (av:=.undef) (v:=Go.undef) rfl⟩
theorem aqI {S:St} {d:Nat} {a:AV} (h:S.at d=a) (hd:a≠ .dead):S.set d a=S:=by
 unfold St.at at h;rw[aG] at h;by_cases hl:d<S.length
 ·rw[aN hl] at h;simp only[qj] at h;subst h;simp
 rw[cv (by omega)] at h;exact absurd h.symm hd
theorem TE (h:cY σ w0 W0 Z H S a w) {i:Nat} {o:Oper} (ho:ops[i]?=some o) (e:cP hh O ops i S K=some ret): (Region.wanted o (yielded ops a.tmps)=true/\∃ nF S',cY nF w0 W0 Z H S' a w/\xe hh O o S' K=some ret)∨ (Region.wanted o (yielded ops a.tmps)=false/\adz w0 W0 Z H K ret (a.put o.dst undef) w):=by
 unfold cP at e;rw[ho] at e;simp only at e;split at e
 ·rename_i hg;exact .inl ⟨by simp[Region.wanted,hg],σ,S,h,e⟩
 rename_i j want hg;split at e;case h_2=>cases e
 rename_i d hd;split at e
 ·rename_i m q ex nI;obtain⟨hy,hv⟩:=akE h hd nI;have hw:Region.wanted o (yielded ops a.tmps)=(q==want):=by unfold Region.wanted;rw[hg];simp only[hy];cases q<;>cases want<;>rfl
  have ahS:=aqI nI (λe=>by cases e);cases q with
  |true=>
   simp only[ab,ahS] at e;cases want with
   |true=>exact .inl ⟨hw,σ,_,h,e⟩
   |false=>exact .inr ⟨hw,_,e,Rel.undef h o.dst⟩
  |false=>
  simp only[ae,ahS] at e;cases want with
  |true=>exact .inr ⟨hw,_,e,Rel.undef h o.dst⟩
  |false=>exact .inl ⟨hw,σ,_,h,e⟩
 ·rename_i nI;have hy:=ahR h hd nI;refine .inr ⟨?_,_,e,Rel.undef h o.dst⟩;unfold Region.wanted;rw[hg];simp only[hy];rfl
 cases e
theorem Vz (hT:kh P hh.tab=true) (hO:LM Γ P O w0 W0) (h:cY σ w0 W0 Z H S a w) {i:Nat} (e:cP hh O ops i S K=some ret): wpOp P ops Q i (λa' w'=>adz w0 W0 Z H K ret a' w'/\(∀ o,ops[i]?=some o->ZQ O o.op=true->Ext w w')) a w:=by
 unfold wpOp;cases ho:ops[i]? with
 |none=>unfold cP at e;rw[ho] at e;cases e
 |some o=>
 simp only;rcases TE h ho e with⟨hw,nF,S',h',e'⟩ |⟨hw,ahT⟩
 ·rw[ay hw];refine .inl (Oper.wp_mono (λa' w' h=>⟨h.1,λo' ho'=>?_⟩) (aAW hT hO h' e'));injection ho' with ho';subst ho';exact h.2
 rw[ar (by rw[hw];exact lR)];exact⟨ahT,λ_ _ _=>Ext.refl w⟩
theorem aqJ (hT:kh P hh.tab=true) (hO:LM Γ P O w0 W0) (hQ:∀ a w,adz w0 W0 Z H K ret a w->Q .normal a w):∀ (l:List Nat) {S:St} {a:Act} {w:World},JN hh O ops l S K=some ret->Rel w0 W0 Z H S a w->wpOps P ops Q l a w
 |[],S,a,w,e,h=>hQ a w ⟨S,e,h⟩
 |i::l,S,a,w,e,⟨σ,h⟩=>by rw[wpOps_cons];simp only[JN] at e;refine mK (λa' w' h'=>?_) (Vz hT hO h e);obtain⟨⟨S',h1,h2⟩,_⟩:=h';exact aqJ hT hO hQ l h1 h2
theorem aao (hT:kh P hh.tab=true) (hO:LM Γ P O w0 W0) (hQ:∀ a w,adz w0 W0 Z H K ret a w->Q .normal a w):∀ (l:OT) {q:List Nat} {S:St} {a:Act} {w:World},l.line=some q->kr hh O ops l S K=some ret->Rel w0 W0 Z H S a w->wpOps P ops Q q a w
 | .done,q,S,a,w,hq,e,h=>by simp only[OT.line,ah] at hq;subst hq;exact hQ a w ⟨S,e,h⟩
 | .one i t,q,S,a,w,hq,e,⟨σ,h⟩=>by simp only[OT.line,na] at hq;obtain⟨r,hr,rfl⟩:=hq;rw[wpOps_cons];simp only[kr] at e;refine mK (λa' w' h'=>?_) (Vz hT hO h e);obtain⟨⟨S',h1,h2⟩,_⟩:=h';exact aao hT hO hQ t hr h1 h2
 | .cut ks t,q,S,a,w,hq,e,h=>by
  simp only[OT.line] at hq;simp only[kr] at e;split at e;case h_2=>cases e
  rename_i S1 hg;exact aao hT hO hQ t hq e (JS h hg)
 | .fz _ t,q,S,a,w,hq,e,h=>by simp only[OT.line] at hq;simp only[kr] at e;exact aao hT hO hQ t hq e (abj h _)
 | .any _ _,q,S,a,w,hq,e,h=>by cases hq
 | .par _ _ _,q,S,a,w,hq,e,h=>by cases hq
 | .own _ _,q,S,a,w,hq,e,h=>by cases hq
theorem Ext.trans {w1 w2 w3:World} (h:Ext w1 w2) (h':Ext w2 w3):Ext w1 w3:=λg hg=>by
 have h1:=h g hg;have:g<w2.heap.size:=by rw[db hg] at h1;exact dh h1
 rw[h' g this,h1]
def wpE (P:Program) (ops:Array Oper) (Q:Exit->Act->World->Prop) (ad:Nat->Bool):Nat->Array Bool->Act->World->Prop
 |0,listed,a,w=>Region.ready .any ops listed=[]/\Q .normal a w
 |n+1,listed,a,w=>(Region.ready .any ops listed=[]->Q .normal a w)/\ ∀ i∈Region.ready .any ops listed,wpOp P ops Q i (λa' w'=>(ad i=true->Ext w w')/\wpE P ops Q ad n (listed.setIfInBounds i true) a' w') a w
theorem amN {ad:Nat->Bool}:∀ (n:Nat) {listed:Array Bool} {a:Act} {w:World},wpE P ops Q ad n listed a w->wpAny P .any ops Q n listed a w
 |0,_,_,_,h=>h
 |n+1,_,_,_,h=>⟨h.1,λi hi=>mK (λ_ _ h'=>amN n h'.2) (h.2 i hi)⟩
theorem aoH {ad:Nat->Bool} {i:Nat} {oi:Oper} {v:Value} (hi:ops[i]?=some oi) (abn:∀ (j:Nat) (o:Oper) cs b,ops[j]?=some o->o.op≠ .select cs b) (hQ:∀ c a w,Q (.panic c) (a.put oi.dst v) w->Q (.panic c) a w) {D:Nat->Bool} (hDi:D i=true) (hD:∀ j oj,ops[j]?=some oj->D j=true->j≠i->∃ e∈oj.after,Region.binds .any e=true/\D e.on=true): ∀ (fuel:Nat) (listed:Array Bool) (a:Act) (w:World),(∀ j,D j=true->listed.getD j true=false)-> (∀ j oj,ops[j]?=some oj->D j=false->listed.getD j true=false->oi.apart ops oj=true/\ad j=true)-> i∈Region.ready .any ops listed->YieldsIf P ops (Ext w) oi v a->wpE P ops Q ad fuel (listed.setIfInBounds i true) (a.put oi.dst v) w->wpE P ops Q ad (fuel+1) listed a w:=by
 intro fuel;induction fuel with
 |zero=>
 intro listed a w _ _ hr hy HH;refine⟨λh=>(by rw[h] at hr;cases hr),λj hj=>?_⟩;by_cases HB:j=i
 ·subst HB;exact hy.wpOp hi (Ext.refl w) ⟨λ_=>Ext.refl w,HH⟩
 have:=pM hj HB;rw[HH.1] at this;cases this
 |succ fuel ih=>
 intro listed a w hun ahU hr hy HH;refine⟨λh=>(by rw[h] at hr;cases hr),λj hj=>?_⟩;by_cases HB:j=i
 ·subst HB;exact hy.wpOp hi (Ext.refl w) ⟨λ_=>Ext.refl w,HH⟩
 have h1:=HH.2 j (pM hj HB);obtain⟨aqK,oj,JF,tR⟩:=kJ.1 hj;have hDj:D j=false:=by
  cases hd:D j with
  |false=>rfl
  |true=>
  obtain⟨e,he,hb,hde⟩:=hD j oj JF hd HB;have h2:=tR e he hb;have h3:=hun e.on hde;rcases gD e.on listed.size with hl |hl
  ·simp[hl] at h2 h3;rw[h3] at h2;cases h2
  simp[qx hl] at h2
 obtain⟨hap,had⟩:=ahU j oj JF hDj aqK;have h2:=wpOp_putIf JF hap (λcs b=>abn i oi cs b hi) (λcs b=>abn j oj cs b JF) hQ hy h1;refine mK (λa' w' h3=>⟨λ_=>h3.2.1 had,?_⟩) h2;have aDk:=h3.2.1 had;refine ih (listed.setIfInBounds j true) a' w' (λk hk=>?_) (λk ok hk hdk aqL=>ahU k ok hk hdk ?_) (pM hr (pd HB)) ?_ ?_
 ·have hjk:j≠k:=λe=>(by subst e;rw[hDj] at hk;cases hk);rw[xi true hjk];exact hun k hk
 ·by_cases hjk:j=k
  ·subst hjk;exact aqK
  rw[xi true hjk] at aqL;exact aqL
 ·exact h3.1.imp (λ⟨q1,q2⟩=>⟨q1,λw2 Nh=>q2 w2 (aDk.trans Nh)⟩) id
 rw[Array.setIfInBounds_comm _ _ HB];exact h3.2.2
theorem abo {ad:Nat->Bool} {i:Nat} {oi:Oper} {v:Value} (hi:ops[i]?=some oi) (abn:∀ (j:Nat) (o:Oper) cs b,ops[j]?=some o->o.op≠ .select cs b) (hQ:∀ c a w,Q (.panic c) (a.put oi.dst v) w->Q (.panic c) a w) {D:Nat->Bool} (hDi:D i=true) (hD:∀ j oj,ops[j]?=some oj->D j=true->j≠i->∃ e∈oj.after,Region.binds .any e=true/\D e.on=true): ∀ (fuel:Nat) (listed:Array Bool) (a:Act) (w:World),(∀ j,D j=true->listed.getD j true=false)-> (∀ j oj,ops[j]?=some oj->D j=false->listed.getD j true=false->oi.apart ops oj=true)-> i∈Region.ready .any ops listed->YieldsIf P ops (λ_=>True) oi v a->wpE P ops Q ad fuel (listed.setIfInBounds i true) (a.put oi.dst v) w->wpE P ops Q ad (fuel+1) listed a w:=by
 intro fuel;induction fuel with
 |zero=>
 intro listed a w _ _ hr hy HH;refine⟨λh=>(by rw[h] at hr;cases hr),λj hj=>?_⟩;by_cases HB:j=i
 ·subst HB;exact hy.wpOp hi trivial ⟨λ_=>Ext.refl w,HH⟩
 have:=pM hj HB;rw[HH.1] at this;cases this
 |succ fuel ih=>
 intro listed a w hun ahU hr hy HH;refine⟨λh=>(by rw[h] at hr;cases hr),λj hj=>?_⟩;by_cases HB:j=i
 ·subst HB;exact hy.wpOp hi trivial ⟨λ_=>Ext.refl w,HH⟩
 have h1:=HH.2 j (pM hj HB);obtain⟨aqK,oj,JF,tR⟩:=kJ.1 hj;have hDj:D j=false:=by
  cases hd:D j with
  |false=>rfl
  |true=>
  obtain⟨e,he,hb,hde⟩:=hD j oj JF hd HB;have h2:=tR e he hb;have h3:=hun e.on hde;rcases gD e.on listed.size with hl |hl
  ·simp[hl] at h2 h3;rw[h3] at h2;cases h2
  simp[qx hl] at h2
 have hap:=ahU j oj JF hDj aqK;have h2:=wpOp_putIf JF hap (λcs b=>abn i oi cs b hi) (λcs b=>abn j oj cs b JF) hQ hy h1;refine mK (λa' w' h3=>⟨h3.2.1,?_⟩) h2;refine ih (listed.setIfInBounds j true) a' w' (λk hk=>?_) (λk ok hk hdk aqL=>ahU k ok hk hdk ?_) (pM hr (pd HB)) ?_ ?_
 ·have hjk:j≠k:=λe=>(by subst e;rw[hDj] at hk;cases hk);rw[xi true hjk];exact hun k hk
 ·by_cases hjk:j=k
  ·subst hjk;exact aqK
  rw[xi true hjk] at aqL;exact aqL
 ·exact h3.1
 rw[Array.setIfInBounds_comm _ _ HB];exact h3.2.2
theorem xj (j k:Nat):Nat.testBit (2^j) k=decide (j=k):=Nat.testBit_two_pow
theorem Zq {o:Oper} {k:Nat} (h:Nat.testBit (dv o) k=true):∃ e∈o.after,Region.binds .any e=true/\e.on=k:=by
 have key:∀ (l:List Edge),Nat.testBit (l.foldr (λe m=>bif Region.binds .any e then m|||2^e.on else m) 0) k=true->∃ e∈l,Region.binds .any e=true/\e.on=k:=by
  intro l;induction l with
  |nil=>intro h;simp at h
  |cons e r ih=>
  intro h;simp only[List.foldr_cons] at h;cases hb:Region.binds .any e with
  |false=>rw[hb] at h;obtain⟨e',h1,h2⟩:=ih h;exact⟨e',er _ h1,h2⟩
  |true=>
  rw[hb] at h;simp only[ab,bh,bd,xj,au] at h;rcases h with h |h
  ·obtain⟨e',h1,h2⟩:=ih h;exact⟨e',er _ h1,h2⟩
  exact⟨e,lS ..,hb,h⟩
 obtain⟨e,h1,h2⟩:=key _ h;exact⟨e,by simpa using h1,h2⟩
theorem akF {o:Oper} {e:Edge} (he:e∈o.after) (hb:Region.binds .any e=true):Nat.testBit (dv o) e.on=true:=by
 have key:∀ (l:List Edge),e∈l->Nat.testBit (l.foldr (λe m=>bif Region.binds .any e then m|||2^e.on else m) 0) e.on=true:=by
  intro l;induction l with
  |nil=>intro h;cases h
  |cons e' r ih=>
  intro h;simp only[List.foldr_cons];rcases aS.1 h with rfl |h
  ·rw[hb];simp[bh,xj]
  cases Region.binds .any e'<;>simp[bh,ih h]
 exact key _ (by simpa using he)
theorem TF (i:Nat):∀ (r:List Nat) (j acc k:Nat),Nat.testBit acc k=true->Nat.testBit (dw i r j acc) k=true
 |[],_,_,_,h=>h
 |m::r,j,acc,k,h=>by simp only[dw];refine TF i r _ _ k ?_;cases (Nat.beq j i|| !(Nat.beq (m&&&acc) 0))<;>simp[bh,h]
theorem abp (i:Nat):∀ (r:List Nat) (j acc:Nat),j<=i->i<j+r.length->Nat.testBit (dw i r j acc) i=true
 |[],_,_,h1,h2=>by simp at h2;omega
 |m::r,j,acc,h1,h2=>by
  simp only[dw];by_cases hj:j=i
  ·subst hj;refine TF _ r _ _ _ ?_;simp[bh,xj]
  exact abp i r _ _ (by omega) (by simp only[ak] at h2;omega)
theorem TG (i:Nat):∀ (r:List Nat) (j acc k:Nat),Nat.testBit (dw i r j acc) k=true-> Nat.testBit acc k=true∨∃ q m,k=j+q/\r[q]?=some m/\(k=i∨∃ t,Nat.testBit m t=true/\Nat.testBit (dw i r j acc) t=true)
 |[],_,_,_,h=>.inl h
 |m::r,j,acc,k,h=>by
  simp only[dw] at h ⊢;rcases TG i r _ _ k h with h1 |⟨q,m',h1,h2,h3⟩
  ·cases hc:(Nat.beq j i|| !(Nat.beq (m&&&acc) 0)) with
   |false=>rw[hc] at h1;exact .inl h1
   |true=>
   rw[hc] at h1;simp only[ab,bh,bd,xj,au] at h1;rcases h1 with h1 |rfl
   ·exact .inl h1
   refine .inr ⟨0,m,by omega,rfl,?_⟩;rw[bd] at hc;rcases hc with hc |hc
   ·exact .inl (aw hc)
   right;have wj:m&&&acc≠0:=λe=>by rw[e] at hc;cases hc
   obtain⟨t,ht⟩:=Nat.exists_testBit_of_ne_zero wj;rw[dC,ai] at ht;refine⟨t,ht.1,TF i r _ _ t ?_⟩;simp[bh,ht.2]
  exact .inr ⟨q+1,m',by omega,by simpa using h2,h3⟩
theorem SG {oi:Oper} {rest:Nat}:∀ (r:List Oper) (j:Nat),U5 O ops oi rest r j=true->∀ (q:Nat) (oj:Oper),r[q]?=some oj->Nat.testBit rest (j+q)=true->oi.apart ops oj=true/\ZQ O oj.op=true
 |[],_,_,q,oj,h,_=>by simp at h
 |o::r,j,h,q,oj,hq,ht=>by
  simp only[U5,ai] at h;cases q with
  |zero=>simp only[aD,ah] at hq;subst hq;rw[dM] at ht;rw[ht] at h;simpa using h.1
  |succ q=>exact SG r (j+1) h.2 q oj (by simpa using hq) (by rw[←ht];congr 1;omega)
theorem aqM (hT:kh P hh.tab=true) (h:cY σ w0 W0 Z H S a w) {i:Nat} {o:Oper} (ho:ops[i]?=some o) (hq:quiet o.op=true) (hn:Nn o.op=false) (e:cP hh O ops i S K=some ret): ∃ v,YieldsIf P ops (Ext w) o v a/\adz w0 W0 Z H K ret (a.put o.dst v) w:=by
 rcases TE h ho e with⟨hw,nF,S',h',e'⟩ |⟨hw,ahT⟩
 ·unfold xe at e';split at e'
  ·rename_i f as ts fp;rw[fp] at hq;cases hq
  ·rename_i i' as ts fp;rw[fp] at hq;cases hq
  ·rename_i fp;rw[fp] at hn;cases hn
  ·rename_i fp;rw[fp] at hn;cases hn
  split at e';case h_2=>cases e'
  rename_i g S1 hev;cases g with
  |false=>cases e'
  |true=>obtain⟨v,h1,h2⟩:=aqv hT h' hq hev;exact⟨v,.inl ⟨hw,h1⟩,S1,e',h2⟩
 exact⟨undef,.inr ⟨hw,rfl⟩,ahT⟩
theorem Bc {oi:Oper} {rest:Nat}:∀ (r:List Oper) (j:Nat),D2 ops oi rest r j=true->∀ (q:Nat) (oj:Oper),r[q]?=some oj->Nat.testBit rest (j+q)=true->oi.apart ops oj=true
 |[],_,_,q,oj,h,_=>by simp at h
 |o::r,j,h,q,oj,hq,ht=>by
  simp only[D2,ai] at h;cases q with
  |zero=>simp only[aD,ah] at hq;subst hq;rw[dM] at ht;rw[ht] at h;simpa using h.1
  |succ q=>exact Bc r (j+1) h.2 q oj (by simpa using hq) (by rw[←ht];congr 1;omega)
theorem VA {oi:Oper} {rest:Nat}:∀ (r:List Oper) (j:Nat),(∀ (q:Nat) (oj:Oper),r[q]?=some oj->Nat.testBit rest (j+q)=true->oi.apart ops oj=true)->D2 ops oi rest r j=true
 |[],_,_=>rfl
 |o::r,j,h=>by
  unfold D2;rw[ai];refine⟨?_,VA r (j+1) λq oj hq ht=>h (q+1) oj (by simpa using hq) (by rw[←ht];congr 1;omega)⟩;cases hb:Nat.testBit rest j with
  |false=>rfl
  |true=>exact h 0 o rfl (by rw[dM];exact hb)
theorem ahV (hT:kh P hh.tab=true) (h:cY σ w0 W0 Z H S a w) {i:Nat} {o:Oper} (ho:ops[i]?=some o) (hqT:XI hh.tab o.op=true) (e:cP hh O ops i S K=some ret): ∃ v,YieldsIf P ops (λ_=>True) o v a/\adz w0 W0 Z H K ret (a.put o.dst v) w:=by
 have hq:still o.op=true:=by unfold XI at hqT;simp only[ai] at hqT;exact hqT.1.1
 have hnn:Nn o.op=false:=by unfold XI at hqT;simp only[ai,bV] at hqT;exact hqT.1.2
 have OV:aky o.op=true:=by unfold still at hq;split at hq<;>first |(rename_i fp;rw[fp];rfl) |cases hq
 rcases TE h ho e with⟨hw,nF,S',h',e'⟩ |⟨hw,ahT⟩
 ·unfold xe at e';split at e'
  ·rename_i f as ts fp;rw[fp] at hq;cases hq
  ·rename_i i' as ts fp;rw[fp] at hq;cases hq
  ·rename_i fp;rw[fp] at hnn;simp[Nn] at hnn
  ·rename_i fp;rw[fp] at hnn;simp[Nn] at hnn
  split at e';case h_2=>cases e'
  rename_i g S1 hev;cases g with
  |false=>cases e'
  |true=>obtain⟨v,h1,h2⟩:=ayd hT h' OV (by unfold XI at hqT;simp only[ai] at hqT;exact hqT.2) hev;exact⟨v,.inl ⟨hw,λw _=>h1 w⟩,S1,e',h2⟩
 exact⟨undef,.inr ⟨hw,rfl⟩,ahT⟩
def adA (ops:Array Oper) (listed:Array Bool) (L:Nat):Prop:=listed.size=ops.size/\∀ j,j<ops.size->listed[j]?=some (Nat.testBit L j)
theorem adA.set {listed:Array Bool} {L i:Nat} (h:adA ops listed L) (hi:i<ops.size):adA ops (listed.setIfInBounds i true) (L|||2^i):=by
 refine⟨by simp[h.1],λj hj=>?_⟩;rw[mV];by_cases QX:i=j
 ·subst QX;simp[h.1,hi,bh,xj]
 rw[ar QX,h.2 j hj,bh,xj];simp[QX]
theorem adA.getD {listed:Array Bool} {L:Nat} (h:adA ops listed L) {j:Nat} (hj:j<ops.size) (d:Bool):listed.getD j d=Nat.testBit L j:=by rw[eW,h.2 j hj];rfl
theorem adA.out {listed:Array Bool} {L:Nat} (h:adA ops listed L) {j:Nat} (hj: ¬j<ops.size) (d:Bool):listed.getD j d=d:=by rw[eW,qx (by rw[h.1];omega)];rfl
def ayk (ops:Array Oper) (as:List Nat) (i j:Nat):Prop:=∃ m oi oj,as[j]?=some m/\ops[i]?=some oi/\ops[j]?=some oj/\i≠j/\(Nat.testBit m i=true∨adU ops oi oj=true)
theorem TH {as:List Nat}:∀ {l:List Nat},aaJ ops as l=true↔l.Pairwise (ayk ops as)
 |[]=>by simp[aaJ]
 |i::r=>by
  simp only[aaJ,ai,aJ,bZ,TH (l:=r)];refine and_congr (AZ λj=>AZ λhj=>?_) Iff.rfl;constructor
  ·intro h;split at h;case h_2=>cases h
   rename_i m oi oj h1 h2 h3;simp only[ai,bV,bd] at h;exact⟨m,oi,oj,h1,h2,h3,λe=>by(subst e;rw[bS] at h;cases h.1),h.2⟩
  rintro⟨m,oi,oj,h1,h2,h3,h4,h5⟩;rw[h1,h2,h3];simp only[ai,bV,bd];refine⟨?_,h5⟩;cases hb:Nat.beq i j with
  |false=>rfl
  |true=>exact absurd (aw hb) h4
theorem aeq {as:List Nat}:∀ (l:List Nat) {L L':Nat},(∀ k,Nat.testBit L k=true->Nat.testBit L' k=true)->Ic as L l=true->Ic as L' l=true
 |[],_,_,_,_=>rfl
 |i::r,L,L',hL,h=>by
  simp only[Ic,ai] at h ⊢;refine⟨?_,aeq r (λk hk=>?_) h.2⟩
  ·have h1:=h.1;split at h1;case h_2=>cases h1
   rename_i m hm;have h2:=aw h1;have:m&&&L'=m:=ll λk=>by
    rw[dC];cases hk:Nat.testBit m k with
    |false=>rfl
    |true=>have h3:Nat.testBit (m&&&L) k=true:=(by rw[h2];exact hk);rw[dC,hk] at h3;rw[hL k (by simpa using h3)];rfl
   rw[this];exact bS m
  rw[bh,bd] at hk ⊢;exact hk.imp (hL k) id
theorem abq {as:List Nat} {j:Nat}:∀ (p r:List Nat) {L:Nat},Ic as L (p++j::r)=true->Ic as (L|||2^j) (p++r)=true
 |[],r,L,h=>by simp only[bU,Ic,ai] at h;exact h.2
 |x::p,r,L,h=>by simp only[bD,Ic,ai] at h ⊢;have h0:Ic as (L|||2^j) [x]=true:=aeq [x] (L:=L) (λk hk=>by rw[bh,hk];rfl) (by simp only[Ic,ai];exact⟨h.1,trivial⟩);simp only[Ic,ai] at h0;refine⟨h0.1,?_⟩;have:=abq p r h.2;rwa [oa,Nat.or_comm (2^x),←oa] at this
theorem zy:∀ (l:List Nat) (k:Nat),Nat.testBit (qu l) k=decide (k∈l)
 |[],k=>by simp[qu]
 |i::r,k=>by have h:qu (i::r)=qu r|||2^i:=rfl;rw[h,bh,zy r k,xj];by_cases h1:k∈r<;>by_cases h2:i=k<;>simp[h1,h2,eq_comm]
def OT.bare:OT->Prop
 | .own _ _=>False
 | .cut _ _=>False
 | .fz _ _=>False
 |_=>True
theorem LO:∀ (l:OT) {S:St} {a:Act} {w:World},kr hh O ops l S K=some ret->Rel w0 W0 Z H S a w-> ∃ (l':OT) (S':St),l'.bare/\kr hh O ops l' S' K=some ret/\Rel w0 W0 Z H S' a w/\l'.len=l.len/\∀ (Θ:kR) (as:List Nat) (full L:Nat),pW Θ O ops as full L l=true->pW Θ O ops as full L l'=true
 | .own d t,S,a,w,e,h=>by
  simp only[kr] at e;split at e;case h_2=>cases e
  rename_i g S1 hg;cases g with
  |false=>cases e
  |true=>obtain⟨l',S',h1,h2,h3,h4,h5⟩:=LO t e (aoF h hg);exact⟨l',S',h1,h2,h3,by simp only[OT.len];exact h4,λΘ as full L ho=>h5 Θ as full L (by simpa only[pW] using ho)⟩
 | .cut ks t,S,a,w,e,h=>by
  simp only[kr] at e;split at e;case h_2=>cases e
  rename_i S1 hg;obtain⟨l',S',h1,h2,h3,h4,h5⟩:=LO t e (JS h hg);exact⟨l',S',h1,h2,h3,by simp only[OT.len];exact h4,λΘ as full L ho=>h5 Θ as full L (by simpa only[pW] using ho)⟩
 | .fz q t,S,a,w,e,h=>by simp only[kr] at e;obtain⟨l',S',h1,h2,h3,h4,h5⟩:=LO t e (abj h q);exact⟨l',S',h1,h2,h3,by simp only[OT.len];exact h4,λΘ as full L ho=>h5 Θ as full L (by simpa only[pW] using ho)⟩
 | .done,S,a,w,e,h=>⟨.done,S,trivial,e,h,rfl,λ_ _ _ _ h=>h⟩
 | .one i t,S,a,w,e,h=>⟨.one i t,S,trivial,e,h,rfl,λ_ _ _ _ h=>h⟩
 | .any q t,S,a,w,e,h=>⟨.any q t,S,trivial,e,h,rfl,λ_ _ _ _ h=>h⟩
 | .par q ds t,S,a,w,e,h=>⟨.par q ds t,S,trivial,e,h,rfl,λ_ _ _ _ h=>h⟩
theorem aqN (hT:kh P hh.tab=true) (hO:LM Γ P O w0 W0) (hQ:∀ a w,adz w0 W0 Z H K ret a w->Q .normal a w) (hQp:∀ c a w,¬Q (.panic c) a w) (abn:Region.noSelect ops=true): ∀ (n:Nat) (L:Nat) (l:OT) {listed:Array Bool} {S:St} {a:Act} {w:World},pW hh.tab O ops (ops.toList.map dv) (2^ops.size - 1) L l=true->adA ops listed L->l.len<=n->kr hh O ops l S K=some ret->Rel w0 W0 Z H S a w-> wpE P ops Q (λj=>match ops[j]? with |some o=>ZQ O o.op |none=>false) n listed a w:=by
 have aAY:∀ {listed:Array Bool} {L:Nat},adA ops listed L->L=2^ops.size - 1->Region.ready .any ops listed=[]:=by intro listed L hb hL;refine List.eq_nil_iff_forall_not_mem.2 λj hj=>?_;obtain⟨h1,oj,h2,_⟩:=kJ.1 hj;have hj:=(cu.1 h2).1;rw[hb.getD hj,hL,gg] at h1;simp[hj] at h1
 intro n;induction n with
 |zero=>
  intro L l listed S a w ho hb hn e h;obtain⟨l,S,abr,e,h,hlen,N9⟩:=LO l e h;replace ho:=N9 _ _ _ _ ho;rw[←hlen] at hn;clear N9 hlen;cases l with
  |own _ _=>exact abr.elim
  |cut _ _=>exact abr.elim
  |fz _ _=>exact abr.elim
  |one _ _=>simp[OT.len] at hn
  |any q _=>
   cases q with
   |nil=>simp[pW,auD] at ho
   |cons _ _=>simp[OT.len] at hn
  |par q _ _=>
   cases q with
   |nil=>simp[pW,auE] at ho
   |cons _ _=>simp[OT.len] at hn
  |done=>simp only[pW] at ho;exact⟨aAY hb (aw ho),hQ a w ⟨S,e,h⟩⟩
 |succ n ih=>
 intro L l listed S a w ho hb hn e h;obtain⟨l,S,abr,e,h,hlen,N9⟩:=LO l e h;replace ho:=N9 _ _ _ _ ho;rw[←hlen] at hn;clear N9 hlen;have ako:∀ (l:OT) (L:Nat),pW hh.tab O ops (ops.toList.map dv) (2^ops.size - 1) L l=true->L<2^ops.size:=by
  intro l;induction l with
  |done=>intro L h;have:=aw h;have:=Nat.two_pow_pos ops.size;omega
  |one i t ih=>intro L h;simp only[pW,ai] at h;exact nJ zw (ih _ h.2)
  |any q t ih=>intro L h;simp only[pW,ai] at h;exact nJ zw (ih _ h.2)
  |par q ds t ih=>intro L h;simp only[pW,ai] at h;exact nJ zw (ih _ h.2)
  |own d t ih=>intro L h;simp only[pW] at h;exact ih _ h
  |fz q t ih=>intro L h;simp only[pW] at h;exact ih _ h
  |cut ks t ih=>intro L h;simp only[pW] at h;exact ih _ h
 have hL2:=ako l L ho;have akG:∀ (i:Nat) (oi:Oper),ops[i]?=some oi->dw i (ops.toList.map dv) 0 0&&&L=0->
   (∀ j,Nat.testBit (dw i (ops.toList.map dv) 0 0) j=true->Nat.testBit L j=false)/\Nat.testBit (dw i (ops.toList.map dv) 0 0) i=true/\
   (∀ j oj,ops[j]?=some oj->Nat.testBit (dw i (ops.toList.map dv) 0 0) j=true->j≠i->∃ e∈oj.after,Region.binds .any e=true/\Nat.testBit (dw i (ops.toList.map dv) 0 0) e.on=true)/\
   (∀ j,Nat.testBit (dw i (ops.toList.map dv) 0 0) j=true->j<ops.size):=by
  intro i oi hoi c3
  have hi:i<ops.size:=(cu.1 hoi).1
  have hW3:∀ j,Nat.testBit (dw i (ops.toList.map dv) 0 0) j=true->Nat.testBit L j=false:=λj hj=>by
   have:Nat.testBit (dw i (ops.toList.map dv) 0 0&&&L) j=false:=by rw[c3];simp
   rw[dC,hj] at this
   simpa using this
  have hWi:Nat.testBit (dw i (ops.toList.map dv) 0 0) i=true:=abp i _ 0 0 (fL _) (by simpa using hi)
  have hWs:∀ j oj,ops[j]?=some oj->Nat.testBit (dw i (ops.toList.map dv) 0 0) j=true->j≠i->∃ e∈oj.after,Region.binds .any e=true/\Nat.testBit (dw i (ops.toList.map dv) 0 0) e.on=true:=λj oj JF hj HB=>by
   rcases TG i _ _ _ j hj with hx |⟨q,m,hq,hm,hx⟩
   ·simp at hx
   ·rw[aW] at hq
    subst hq
    rw[bO,bI,JF] at hm
    simp only[aP,ah] at hm
    subst hm
    rcases hx with hx |⟨t,h1,h2⟩
    ·exact absurd hx HB
    ·obtain⟨e,he,hbd,rfl⟩:=Zq h1
     exact⟨e,he,hbd,h2⟩
  have afH:∀ j,Nat.testBit (dw i (ops.toList.map dv) 0 0) j=true->j<ops.size:=λj hj=>by
   rcases TG i _ _ _ j hj with hx |⟨q,m,hq,hm,hx⟩
   ·simp at hx
   ·have:=(bL.1 hm).1
    simp at this
    omega
  exact⟨hW3,hWi,hWs,afH⟩
 have facts:∀ (i:Nat) (oi:Oper),ops[i]?=some oi->Nat.testBit L i=false->dv oi&&&L=dv oi->dw i (ops.toList.map dv) 0 0&&&L=0->
   (∀ j,Nat.testBit (dw i (ops.toList.map dv) 0 0) j=true->Nat.testBit L j=false)/\Nat.testBit (dw i (ops.toList.map dv) 0 0) i=true/\
   (∀ j oj,ops[j]?=some oj->Nat.testBit (dw i (ops.toList.map dv) 0 0) j=true->j≠i->∃ e∈oj.after,Region.binds .any e=true/\Nat.testBit (dw i (ops.toList.map dv) 0 0) e.on=true)/\
   (∀ j,Nat.testBit (dw i (ops.toList.map dv) 0 0) j=true->j<ops.size)/\i∈Region.ready .any ops listed:=by
  intro i oi hoi c1 c2 c3
  have hi:i<ops.size:=(cu.1 hoi).1
  obtain⟨hW3,hWi,hWs,afH⟩:=akG i oi hoi c3
  refine⟨hW3,hWi,hWs,afH,kJ.2 ⟨by rw[hb.getD hi];exact c1,oi,hoi,λe he hbd=>?_⟩⟩
  have h1:=akF he hbd
  have h2:Nat.testBit (dv oi&&&L) e.on=true:=by rw[c2];exact h1
  rw[dC,h1] at h2
  have h3:Nat.testBit L e.on=true:=by simpa using h2
  by_cases hl:e.on<ops.size
  ·rw[hb.getD hl];exact h3
  ·rw[Nat.testBit_lt_two_pow (oY hL2 (sL (by decide) (by omega)))] at h3
   cases h3
 cases l with
 |done=>simp only[pW] at ho;have hr:=aAY hb (aw ho);exact⟨λ_=>hQ a w ⟨S,e,h⟩,λi hi=>by rw[hr] at hi;cases hi⟩
 |own _ _=>exact abr.elim
 |cut _ _=>exact abr.elim
 |fz _ _=>exact abr.elim
 |any q t=>
  simp only[pW,ai] at ho
  obtain⟨hc,hot⟩:=ho
  have hc0:=hc
  unfold auD at hc
  simp only[ai,bV,aJ] at hc
  obtain⟨⟨⟨wj,Io⟩,akH⟩,abt⟩:=hc
  have hpw:=TH.1 akH
  have get:∀ i∈q,∃ oi,ops[i]?=some oi/\i<ops.size:=λi hi=>by
   have h1:i<ops.size:=oY (sr _) (bJ (Io i hi).1.1.1)
   exact⟨ops[i],db h1,h1⟩
  have unl:∀ i∈q,Nat.testBit L i=false:=λi hi=>(Io i hi).1.1.2
  -- the first is ready
  obtain⟨i0,q0,rfl⟩:∃ i0 q0,q=i0::q0:=by
   cases q with
   |nil=>simp at wj
   |cons i0 q0=>exact⟨i0,q0,rfl⟩
  obtain⟨oi0,abu,hi0⟩:=get i0 (by simp)
  have hd0:=abt
  simp only[Ic,ai] at hd0
  have hd1:=hd0.1
  rw[bO,bI,abu] at hd1
  simp only[aP] at hd1
  obtain⟨_,_,_,_,hr0⟩:=facts i0 oi0 abu (unl i0 (by simp)) (aw hd1) (aw (Io i0 (by simp)).1.2)
  refine⟨λhx=>(by rw[hx] at hr0;cases hr0),λj hj=>?_⟩
  obtain⟨j1,oj,JF,j3⟩:=kJ.1 hj
  have Oe:=(cu.1 JF).1
  have TJ:∀ i∈i0::q0,j≠i->Nat.testBit (dw i (ops.toList.map dv) 0 0) j=false:=λi hi HB=>by
   cases hw:Nat.testBit (dw i (ops.toList.map dv) 0 0) j with
   |false=>rfl
   |true=>
    exfalso
    obtain⟨oi,hoi,hil⟩:=get i hi
    obtain⟨w3,_,ws,wlt⟩:=akG i oi hoi (aw (Io i hi).1.2)
    obtain⟨e,he,hbd,h6⟩:=ws j oj JF hw HB
    have h7:=j3 e he hbd
    rw[hb.getD (wlt _ h6),w3 _ h6] at h7
    cases h7
  have hjq:j∈i0::q0:=by
   refine ca λhnj=>?_
   have hz:=aw (Io i0 (by simp)).2
   have h4:Nat.testBit (2^ops.size - 1^^^(dw i0 (ops.toList.map dv) 0 0|||L|||qu (i0::q0))) j=false:=by rw[hz];simp
   rw[nK,gg,bh,bh,zy,TJ i0 (by simp) (λe=>hnj (by simp[e]))] at h4
   rw[hb.getD Oe] at j1
   rw[j1] at h4
   simp[Oe,hnj] at h4
  obtain⟨p,r,hpr⟩:=List.append_of_mem hjq
  rw[hpr] at hc0 hpw abt Io TJ unl e hn
  clear hd0 hd1 hr0 hjq get
  have akI:∀ x∈p,∃ ox,ops[x]?=some ox/\adU ops ox oj=true:=λx hx=>by
   obtain⟨m,ox,oj',h1,h2,h3,h4,h5⟩:=(eR.1 hpw).2.2 x hx j (by simp)
   rw[JF] at h3
   injection h3 with h3
   subst h3
   refine⟨ox,h2,h5.resolve_left λhm=>?_⟩
   rw[bO,bI,JF] at h1
   simp only[aP,ah] at h1
   subst h1
   obtain⟨e,he,hbd,rfl⟩:=Zq hm
   have h7:=j3 e he hbd
   have hxl:=(cu.1 h2).1
   rw[hb.getD hxl,unl _ (by simp[hx])] at h7
   cases h7
  simp only[kr] at e
  have e2:=ad2 hO.det JF p r akI e
  unfold JO at e2
  rw[JF] at e2
  simp only at e2
  cases gj:Dc O ops S oj with
  |false=>rw[gj] at e2;cases e2
  |true=>
  rw[gj] at e2
  simp only[ab] at e2
  obtain⟨σ,h⟩:=h
  refine mK (λa' w' h'=>?_) (Vz hT hO h e2)
  obtain⟨⟨S',k1,k2⟩,k3⟩:=h'
  have hjn:j∉p++r:=λhx=>by
   rw[eR,bZ] at hpw
   rcases a8.1 hx with hx |hx
   ·obtain⟨_,_,_,_,_,_,h4,_⟩:=hpw.2.2 j hx j (by simp);exact h4 rfl
   ·obtain⟨_,_,_,_,_,_,h4,_⟩:=hpw.2.1.1 j hx;exact h4 rfl
  have ahW:L|||qu (p++j::r)=L|||2^j|||qu (p++r):=ll λk=>by
   rw[bh,bh,bh,zy,zy,xj]
   have hm:decide (k∈p++j::r)=(decide (j=k)||decide (k∈p++r)):=by
    rw[←Bool.decide_or]
    apply ia.2
    simp only[a8,aS]
    constructor
    ·rintro(h |h |h)
     ·exact .inr (.inl h)
     ·exact .inl h.symm
     ·exact .inr (.inr h)
    ·rintro(h |h |h)
     ·exact .inr (.inl h.symm)
     ·exact .inl h
     ·exact .inr (.inr h)
   rw[hm,Bool.or_assoc]
  refine⟨λhad=>?_,?_⟩
  ·simp only[JF] at had
   exact k3 oj JF had
  ·have akJ:pW hh.tab O ops (ops.toList.map dv) (2^ops.size - 1) (L|||2^j|||qu (p++r)) t=true:=by rw[←ahW,←hpr];exact hot
   cases hpe:p++r with
   |nil=>
    rw[hpe] at k1 akJ
    simp only[JO] at k1
    refine ih _ t (by simpa[qu] using akJ) (hb.set Oe) ?_ k1 k2
    simp only[OT.len,ax,ak] at hn
    omega
   |cons z zs=>
    refine ih (L|||2^j) (.any (p++r) t) ?_ (hb.set Oe) ?_ k1 k2
    ·simp only[pW,ai]
     refine⟨?_,akJ⟩
     unfold auD
     simp only[ai,bV,aJ]
     refine⟨⟨⟨by rw[hpe];rfl,λi hi=>?_⟩,TH.2 (hpw.sublist (by simp))⟩,abq p r abt⟩
     have hi':i∈p++j::r:=by simp only[a8,aS] at hi ⊢;exact hi.imp id .inr
     have QX:j≠i:=λe=>hjn (by rw[e];exact hi)
     obtain⟨⟨⟨m1,m2⟩,m3⟩,m4⟩:=Io i hi'
     refine⟨⟨⟨m1,?_⟩,?_⟩,?_⟩
     ·rw[bh,m2,xj];simp[QX]
     ·have hz:dw i (ops.toList.map dv) 0 0&&&(L|||2^j)=0:=ll λk=>by
       have hk:Nat.testBit (dw i (ops.toList.map dv) 0 0&&&L) k=false:=by rw[aw m3];simp
       rw[dC] at hk
       rw[dC,bh,xj,vl]
       by_cases hkj:j=k
       ·subst hkj
        rw[TJ i hi' QX]
        rfl
       ·simp only[hkj,zx,AY]
        exact hk
      rw[hz];rfl
     ·have hz:=aw m4
      have:dw i (ops.toList.map dv) 0 0|||(L|||2^j)|||qu (p++r)=dw i (ops.toList.map dv) 0 0|||L|||qu (p++j::r):=by rw[oa,←ahW,oa]
      rw[this]
      exact m4
    ·simp only[OT.len,ax,ak] at hn ⊢
     omega
 |par q ds t=>
  simp only[pW,ai] at ho
  obtain⟨hc,hot⟩:=ho
  have hc0:=hc
  unfold auE at hc
  simp only[ai,bV,aJ] at hc
  obtain⟨⟨⟨⟨wj,Io⟩,akH⟩,abt⟩,akK⟩:=hc
  have hpw:=KZ.1 akH
  have get:∀ i∈q,∃ oi,ops[i]?=some oi/\i<ops.size:=λi hi=>by
   have h1:i<ops.size:=oY (sr _) (bJ (Io i hi).1.1.1)
   exact⟨ops[i],db h1,h1⟩
  have unl:∀ i∈q,Nat.testBit L i=false:=λi hi=>(Io i hi).1.1.2
  -- the first is ready
  obtain⟨i0,q0,rfl⟩:∃ i0 q0,q=i0::q0:=by
   cases q with
   |nil=>simp at wj
   |cons i0 q0=>exact⟨i0,q0,rfl⟩
  obtain⟨oi0,abu,hi0⟩:=get i0 (by simp)
  have hd0:=abt
  simp only[Ic,ai] at hd0
  have hd1:=hd0.1
  rw[bO,bI,abu] at hd1
  simp only[aP] at hd1
  obtain⟨hW3,hWi,hWs,afH,hr0⟩:=facts i0 oi0 abu (unl i0 (by simp)) (aw hd1) (aw (Io i0 (by simp)).1.2)
  have side:∀ x∈i0::q0,∀ ox,ops[x]?=some ox->Nn ox.op=false:=λx hx ox hox=>by
   have:=akK x hx
   rw[hox] at this
   simpa only[bV] using this
  -- those that wait for none that is ready
  have TJ:∀ j,j∈Region.ready .any ops listed->∀ i∈i0::q0,j≠i->Nat.testBit (dw i (ops.toList.map dv) 0 0) j=false:=λj hj i hi HB=>by
   obtain⟨j1,oj,JF,j3⟩:=kJ.1 hj
   cases hw:Nat.testBit (dw i (ops.toList.map dv) 0 0) j with
   |false=>rfl
   |true=>
    exfalso
    obtain⟨oi,hoi,hil⟩:=get i hi
    obtain⟨w3,_,ws,wlt⟩:=akG i oi hoi (aw (Io i hi).1.2)
    obtain⟨e,he,hbd,h6⟩:=ws j oj JF hw HB
    have h7:=j3 e he hbd
    rw[hb.getD (wlt _ h6),w3 _ h6] at h7
    cases h7
  -- when one of them is done
  have tail:∀ (p r:List Nat) (j:Nat) (oj:Oper),ops[j]?=some oj->i0::q0=p++j::r->j∈Region.ready .any ops listed->∀ {S':St} {a':Act} {w':World},(bif Ib (ds.filter λd=>Ps hh.tab d oj) S' then JN hh O ops (p++r) S' (λS1=>kr hh O ops t S1 K) else none)=some ret->Rel w0 W0 Z H S' a' w'->
    wpE P ops Q (λj=>match ops[j]? with |some o=>ZQ O o.op |none=>false) n (listed.setIfInBounds j true) a' w':=by
   intro p r j oj JF hpr hjr S' a' w' k1 k2
   have hwj:Ib (ds.filter λd=>Ps hh.tab d oj) S'=true:=by
    cases hq:Ib (ds.filter λd=>Ps hh.tab d oj) S' with
    |true=>rfl
    |false=>rw[hq] at k1;cases k1
   rw[hwj,ab] at k1
   have Oe:j<ops.size:=by
    obtain⟨_,oj,JF,_⟩:=kJ.1 hjr
    exact(cu.1 JF).1
   have hnw:=TJ j hjr
   rw[hpr] at hpw abt Io akK hn hnw
   have hjn:j∉p++r:=λhx=>by
    rw[eR,bZ] at hpw
    rcases a8.1 hx with hx |hx
    ·obtain⟨_,_,_,_,h4,_⟩:=hpw.2.2 j hx j (by simp);exact h4 rfl
    ·obtain⟨_,_,_,_,h4,_⟩:=hpw.2.1.1 j hx;exact h4 rfl
   have ahW:L|||qu (p++j::r)=L|||2^j|||qu (p++r):=ll λk=>by
    rw[bh,bh,bh,zy,zy,xj]
    have hm:decide (k∈p++j::r)=(decide (j=k)||decide (k∈p++r)):=by
     rw[←Bool.decide_or]
     apply ia.2
     simp only[a8,aS]
     constructor
     ·rintro(h |h |h)
      ·exact .inr (.inl h)
      ·exact .inl h.symm
      ·exact .inr (.inr h)
     ·rintro(h |h |h)
      ·exact .inr (.inl h.symm)
      ·exact .inl h
      ·exact .inr (.inr h)
    rw[hm,Bool.or_assoc]
   have akJ:pW hh.tab O ops (ops.toList.map dv) (2^ops.size - 1) (L|||2^j|||qu (p++r)) t=true:=by rw[←ahW,←hpr];exact hot
   cases hpe:p++r with
   |nil=>
    rw[hpe] at k1 akJ
    simp only[JN] at k1
    refine ih _ t (by simpa[qu] using akJ) (hb.set Oe) ?_ k1 k2
    simp only[OT.len,ax,ak] at hn
    omega
   |cons z zs=>
    have aAZ:Lr hh.tab ops (ops.toList.map dv) (ds.filter λd=>vF (Tp d) S' 0) (p++r) (p++r)=true:=KZ.2 ((hpw.sublist (l₁:=p++r) (by simp)).imp_of_mem λ{x y} hx hy hr=>by
     obtain⟨ox,oy,h1,h2,h3,h4,h5⟩:=hr
     refine⟨ox,oy,h1,h2,h3,h4,h5.imp id λhc=>akl (λd hd=>?_) hc⟩
     obtain⟨hd1,hd2⟩:=dp.1 hd
     have wj:∀ z∈p++r,j≠z:=λz hz e=>hjn (e▸hz)
     have lT:∀ z∈p++r,z∈p++j::r:=λz hz=>by simp only[a8,aS] at hz ⊢;exact hz.imp id .inr
     have hk:=ad' hd2 (z:=j) (by simp) (wj x hx) (wj y hy) (hnw x (lT x hx) (wj x hx)) (hnw y (lT y hy) (wj y hy)) JF
     exact dp.2 ⟨dp.2 ⟨hd1,aJ.1 hwj d (dp.2 ⟨hd1,hk⟩)⟩,apY lT hd2⟩)
    refine ih (L|||2^j) (.par (p++r) (ds.filter λd=>vF (Tp d) S' 0) t) ?_ (hb.set Oe) ?_ (show(bif Ib (ds.filter λd=>vF (Tp d) S' 0) S' then _ else none)=_ by
     rw[show Ib (ds.filter λd=>vF (Tp d) S' 0) S'=true from aJ.2 λd hd=>(dp.1 hd).2]
     exact k1) k2
    ·simp only[pW,ai]
     refine⟨?_,akJ⟩
     unfold auE
     simp only[ai,bV,aJ]
     refine⟨⟨⟨⟨by rw[hpe];rfl,λi hi=>?_⟩,aAZ⟩,abq p r abt⟩,λi hi=>akK i (by simp only[a8,aS] at hi ⊢;exact hi.imp id .inr)⟩
     have hi':i∈p++j::r:=by simp only[a8,aS] at hi ⊢;exact hi.imp id .inr
     have QX:j≠i:=λe=>hjn (by rw[e];exact hi)
     obtain⟨⟨⟨m1,m2⟩,m3⟩,m4⟩:=Io i hi'
     refine⟨⟨⟨m1,?_⟩,?_⟩,?_⟩
     ·rw[bh,m2,xj];simp[QX]
     ·have hz:dw i (ops.toList.map dv) 0 0&&&(L|||2^j)=0:=ll λk=>by
       have hk:Nat.testBit (dw i (ops.toList.map dv) 0 0&&&L) k=false:=by rw[aw m3];simp
       rw[dC] at hk
       rw[dC,bh,xj,vl]
       by_cases hkj:j=k
       ·subst hkj
        rw[hnw i hi' QX]
        rfl
       ·simp only[hkj,zx,AY]
        exact hk
      rw[hz];rfl
     ·rw[bd] at m4 ⊢
      refine m4.imp (λm4=>?_) λm4=>?_
      ·have:dw i (ops.toList.map dv) 0 0|||(L|||2^j)|||qu (p++r)=dw i (ops.toList.map dv) 0 0|||L|||qu (p++j::r):=by rw[oa,←ahW,oa]
       rw[this]
       exact m4
      ·unfold apF at m4 ⊢
       split at m4
       case h_2=>cases m4
       rename_i oi hoi
       rw[ai] at m4 ⊢
       refine⟨m4.1,VA _ _ λk ok hk ayl=>Bc _ _ m4.2 k ok hk ?_⟩
       rw[nK,dC,bh,bh] at ayl ⊢
       rw[bh] at ayl
       revert ayl
       cases Nat.testBit (2^ops.size - 1) (0+k)<;>cases Nat.testBit (dw i (ops.toList.map dv) 0 0) (0+k)<;>cases Nat.testBit L (0+k)<;>cases Nat.testBit (dv oi) (0+k)<;>simp
    ·simp only[OT.len,ax,ak] at hn ⊢
     omega
  simp only[kr] at e
  cases hwh:Ib ds S with
  |false=>rw[hwh] at e;cases e
  |true=>
  rw[hwh] at e
  simp only[ab] at e
  rcases(bd _ _).mp (Io i0 (by simp)).2 with hz |hz
  rotate_left
  ·-- the first may always go first
   unfold apF at hz
   rw[abu] at hz
   simp only[ai] at hz
   obtain⟨hq,hap⟩:=hz
   have s2:=side i0 (by simp) oi0 abu
   have e2:cP hh O ops i0 S (λS1=>bif Ib (ds.filter λd=>Ps hh.tab d oi0) S1 then JN hh O ops ([]++q0) S1 (λS1=>kr hh O ops t S1 K) else none)=some ret:=by
    simp only[JN] at e
    obtain⟨X,x1,x3,x2⟩:=aa1 hO.det abu s2 e
    rw[x1,Ih.2 λd hd=>x2 d (dp.1 hd).2 (Ih.1 hwh d (dp.1 hd).1)]
    exact x3
   obtain⟨σ,h⟩:=h
   obtain⟨v,hy,S',k1,k2⟩:=ahV hT h abu hq e2
   refine abo abu (qy abn) (λc a w hx=>absurd hx (hQp _ _ _)) (D:=λj=>Nat.testBit (dw i0 (ops.toList.map dv) 0 0) j) hWi hWs n listed a w (λj hd=>?_) (λj oj JF hd hun=>?_) hr0 hy (tail [] q0 i0 oi0 abu rfl hr0 k1 k2)
   ·rw[hb.getD (afH j hd)];exact hW3 j hd
   ·have Oe:=(cu.1 JF).1
    refine Bc ops.toList 0 hap j oj (by rw[bI];exact JF) ?_
    rw[hb.getD Oe] at hun
    try simp only at hd
    have haf:Nat.testBit (dv oi0) j=false:=by
     cases hx:Nat.testBit (dv oi0) j with
     |false=>rfl
     |true=>
      exfalso
      have h2:Nat.testBit (dv oi0&&&L) j=true:=by rw[aw hd1];exact hx
      rw[dC,hx,hun] at h2
      cases h2
    rw[aW,nK,dC,gg,bh,bh,hd,hun,haf]
    simp[Oe]
  refine⟨λhx=>(by rw[hx] at hr0;cases hr0),λj hj=>?_⟩
  obtain⟨j1,oj,JF,j3⟩:=kJ.1 hj
  have Oe:=(cu.1 JF).1
  have hjq:j∈i0::q0:=by
   refine ca λhnj=>?_
   have hz:=aw hz
   have h4:Nat.testBit (2^ops.size - 1^^^(dw i0 (ops.toList.map dv) 0 0|||L|||qu (i0::q0))) j=false:=by rw[hz];simp
   rw[nK,gg,bh,bh,zy,TJ j hj i0 (by simp) (λe=>hnj (by simp[e]))] at h4
   rw[hb.getD Oe] at j1
   rw[j1] at h4
   simp[Oe,hnj] at h4
  obtain⟨p,r,hpr⟩:=List.append_of_mem hjq
  have hnd:∀ x∈p,x∈i0::q0:=λx hx=>by rw[hpr];simp[hx]
  have aym:=hpw
  rw[hpr] at aym
  have hpj:∀ x∈p,apX hh.tab ops (ops.toList.map dv) ds (p++j::r) x j:=λx hx=>(eR.1 aym).2.2 x hx j (by simp)
  have akI:∀ x∈p,∃ ox,ops[x]?=some ox/\Nn ox.op=false/\U4 (ds.filter (afi hh.tab ops (ops.toList.map dv) (p++j::r) x j)) ox oj=true/\∀ d∈ds.filter (afi hh.tab ops (ops.toList.map dv) (p++j::r) x j),cC (Tp d) S:=λx hx=>by
   obtain⟨ox,oj',h2,h3,h4,h6,h5⟩:=hpj x hx
   rw[JF] at h3
   injection h3 with h3
   subst h3
   refine⟨ox,h2,side x (hnd x hx) ox h2,h5.resolve_left λhm=>?_,λd hd=>Ih.1 hwh d (dp.1 hd).1⟩
   rw[TJ j hj x (hnd x hx) (pd h4)] at hm
   cases hm
  have SE:p.Pairwise (λy x=>∀ d∈ds.filter (afi hh.tab ops (ops.toList.map dv) (p++j::r) x j),∀ oy,ops[y]?=some oy->Ps hh.tab d oy=true):=(eR.1 aym).1.imp_of_mem λ{y x} hy hx hr d hd oy hoy=>by
   obtain⟨_,_,_,_,h1,h2,_⟩:=hr
   obtain⟨_,_,_,_,h3,h4,_⟩:=hpj y hy
   exact ad' (dp.1 hd).2 (by simp[hy]) h1 h3 h2 h4 hoy
  have e':=e
  rw[hpr] at e'
  have e3:=aa2 hO.det JF p r akI SE e'
  have sj2:=side j hjq oj JF
  have e2:cP hh O ops j S (λS1=>bif Ib (ds.filter λd=>Ps hh.tab d oj) S1 then JN hh O ops (p++r) S1 (λS1=>kr hh O ops t S1 K) else none)=some ret:=by
   obtain⟨X,x1,x3,x2⟩:=aa1 hO.det JF sj2 e3
   rw[x1,Ih.2 λd hd=>x2 d (dp.1 hd).2 (Ih.1 hwh d (dp.1 hd).1)]
   exact x3
  obtain⟨σ,h⟩:=h
  refine mK (λa' w' h'=>?_) (Vz hT hO h e2)
  obtain⟨⟨S',k1,k2⟩,k3⟩:=h'
  refine⟨λhad=>?_,tail p r j oj JF hpr hj k1 k2⟩
  simp only[JF] at had
  exact k3 oj JF had
 |one i l=>
 simp only[pW,ai] at ho;obtain⟨hc,ho⟩:=ho;unfold apE at hc;split at hc;case h_2=>cases hc
 rename_i m oi hm hoi;have hi:i<ops.size:=(cu.1 hoi).1;rw[bO,bI,hoi] at hm;simp only[aP,ah] at hm;subst hm;simp only[ai,bV] at hc;obtain⟨⟨⟨c1,c2⟩,c3⟩,c4⟩:=hc;have c2:=aw c2;have c3:=aw c3;have hn':l.len<=n:=by simp only[OT.len] at hn;omega
 obtain⟨hW3,hWi,hWs,afH,afI⟩:=facts i oi hoi c1 c2 c3;rw[bd] at c4;have aht:∀ j,j<ops.size->Nat.testBit (2^ops.size - 1^^^(dw i (ops.toList.map dv) 0 0|||L)) j=!(Nat.testBit (dw i (ops.toList.map dv) 0 0) j||Nat.testBit L j):=λj hj=>by rw[nK,gg,bh];simp[hj]
 simp only[kr] at e;obtain⟨σ,h⟩:=h;by_cases c0:Nat.beq (2^ops.size - 1^^^(dw i (ops.toList.map dv) 0 0|||L)) 0=true
 ·have hz:=aw c0;refine⟨λhx=>(by rw[hx] at afI;cases afI),λj hj=>?_⟩;have HB:j=i:=by
   refine ca λHB=>?_;obtain⟨h1,oj,h2,h3⟩:=kJ.1 hj;have Oe:=(cu.1 h2).1;have h4:=aht j Oe;rw[hz,vl] at h4;rw[hb.getD Oe] at h1;rw[h1] at h4;have h5:Nat.testBit (dw i (ops.toList.map dv) 0 0) j=true:=by
    cases hx:Nat.testBit (dw i (ops.toList.map dv) 0 0) j with
    |true=>rfl
    |false=>rw[hx] at h4;cases h4
   obtain⟨e,he,hbd,h6⟩:=hWs j oj h2 h5 HB;have h7:=h3 e he hbd;rw[hb.getD (afH _ h6),hW3 _ h6] at h7;cases h7
  subst HB;refine mK (λa' w' h'=>?_) (Vz hT hO h e);obtain⟨⟨S',k1,k2⟩,k3⟩:=h';refine⟨λhad=>?_,ih _ l ho (hb.set hi) hn' k1 k2⟩;simp only[hoi] at had;exact k3 oi hoi had
 ·rw[bd] at c4
  rcases c4 with c4 |c4
  rotate_left
  ·rw[ai] at c4
   obtain⟨hq,hap⟩:=c4
   obtain⟨v,hy,S',k1,k2⟩:=ahV hT h hoi hq e
   refine abo hoi (qy abn) (λc a w hx=>absurd hx (hQp _ _ _)) (D:=λj=>Nat.testBit (dw i (ops.toList.map dv) 0 0) j) hWi hWs n listed a w (λj hd=>?_) (λj oj JF hd hun=>?_) afI hy (ih _ l ho (hb.set hi) hn' k1 k2)
   ·rw[hb.getD (afH j hd)];exact hW3 j hd
   ·have Oe:=(cu.1 JF).1
    have h4:=aht j Oe
    rw[hb.getD Oe] at hun
    try simp only at hd
    rw[hd,hun] at h4
    exact Bc ops.toList 0 hap j oj (by rw[bI];exact JF) (by rw[aW];exact h4)
  have c4:=c4.resolve_left c0
  rw[ai,ai,bV] at c4
  obtain⟨hq,hn0,hap⟩:=c4
  obtain⟨v,hy,S',k1,k2⟩:=aqM hT h hoi hq hn0 e
  refine aoH hoi (qy abn) (λc a w hx=>absurd hx (hQp _ _ _)) (D:=λj=>Nat.testBit (dw i (ops.toList.map dv) 0 0) j) hWi hWs n listed a w (λj hd=>?_) (λj oj JF hd hun=>?_) afI hy (ih _ l ho (hb.set hi) hn' k1 k2)
  ·rw[hb.getD (afH j hd)];exact hW3 j hd
  ·have Oe:=(cu.1 JF).1
   have h4:=aht j Oe
   rw[hb.getD Oe] at hun
   try simp only at hd
   rw[hd,hun] at h4
   have:=SG ops.toList 0 hap j oj (by rw[bI];exact JF) (by rw[aW];exact h4)
   simp only[JF]
   exact this
theorem auZ (hT:kh P hh.tab=true) (hO:LM Γ P O w0 W0) (hQ:∀ a w,adz w0 W0 Z H K ret a w->Q .normal a w) (hQp:∀ c a w,¬Q (.panic c) a w) {l:OT} (hl:axU hh.tab O ops l=true) {S:St} {a:Act} {w:World} (e:kr hh O ops l S K=some ret) (h:Rel w0 W0 Z H S a w): wpAny P .any ops Q ops.size (Array.replicate ops.size false) a w:=by unfold axU at hl;rw[ai,ai] at hl;obtain⟨⟨abn,hlen⟩,ho⟩:=hl;have hb:adA ops (Array.replicate ops.size false) 0:=⟨by simp,λj hj=>by simp[hj]⟩;exact amN _ (aqN hT hO hQ hQp abn ops.size 0 l ho hb (bJ hlen) e h)
end Go.Pv
namespace Go.Pv
open List Int IntKind
variable {Γ:Gl} {P:Program} {w w':World} {A A' Wr:Nat->Prop} {H:Nat->Value} {tm N':Nat->Value} {S S' S1:St} {σ eo lU:Nat->Option Nat} {w0:World} {W0 Z:Nat->Prop} {a:Act} {own:Nat->Prop} {v:Value} {Θ:kR} {dst:Option Nat} {O:va} {hh:Hint} {Q:Exit->Act->World->Prop} {ret:iI} {ops:Array Oper}
theorem aer (h:Rel w0 W0 Z H S a w) {key:Nat} (e:hh.clean key S=some S1):Rel w0 W0 Z H S1 a w:=by
 unfold Hint.clean at e;split at e;case h_2=>cases e
 exact JS h e
theorem amO (h:Rel w0 W0 Z H S a w) {key:Nat} {K:Ks} {e:Ex} (he:hh.nf key K e S=some ret):∃ S1,K e S1=some ret/\Rel w0 W0 Z H S1 a w:=by
 unfold Hint.nf at he;split at he;case h_2=>cases he
 split at he;case h_2=>cases he
 rename_i S1 h1;exact⟨S1,he,JS h h1⟩
theorem Zr {key:Nat} (e:hh.clean key S=some S1):∃ ks x,AX hh.loops key=some ks/\S1=shape ks x:=by
 unfold Hint.clean at e;split at e;case h_2=>cases e
 rename_i ks XE;unfold JL at e;cases hk:xd ks ks with
 |false=>rw[hk] at e;cases e
 |true=>
 rw[hk] at e;simp only[ab] at e;split at e;case h_2=>cases e
 rename_i x _;injection e with e;exact⟨ks,x,XE,e.symm⟩
def Ex.out:Ex->Exit
 | .n=>.normal | .x id=>.exit id | .r=>.ret
def TK (P:Program) (c:Code) (Q:Exit->Act->World->Prop) (a:Act) (w:World):Prop:=∀ (b:Frame) (k:List Item) (cs:List Frame),∃ e a' w',Q e a' w'/\Arrives P (lone (b.at a (.code c::.inLoop c::k)) cs w) b k cs e a' w'
theorem TK.wp {c:Code} (h:TK P c Q a w):(Code.loop c).wp P Q a w:=λb k cs=>by obtain⟨e,a',w',hq,ahX⟩:=h b k cs;exact⟨e,a',w',hq,.of_steps (.one step_loop) ahX⟩
theorem TK.round {c:Code} (h:c.wp P (Exit.then (TK P c Q) Q) a w):TK P c Q a w:=λb k cs=>by
 obtain⟨e,aqO,aqP,hq,ahX⟩:=h b (.inLoop c::k) cs;cases e with
 |normal=>obtain⟨aDl,aDm,aDn,aA0,au0⟩:=hq b k cs;exact⟨aDl,aDm,aDn,aA0,.of_steps (Steps.trans ahX (.one step_inLoop)) au0⟩
 |exit id=>exact⟨_,aqO,aqP,hq,.pass (x:=.inLoop c) rfl (λ_ _=>.inl (by simp)) ahX⟩
 |goto l=>exact⟨_,aqO,aqP,hq,.pass (x:=.inLoop c) rfl (λ_ _=>.inl (by simp)) ahX⟩
 |ret=>exact⟨_,aqO,aqP,hq,.pass (x:=.inLoop c) rfl (λ_ _=>.inl (by simp)) ahX⟩
 |panic ch=>exact⟨_,aqO,aqP,hq,.pass (x:=.inLoop c) rfl (λ_ _=>.inl (by simp)) ahX⟩
 |outgrown=>exact⟨_,aqO,aqP,hq,.pass (x:=.inLoop c) rfl (λ_ _=>.inl (by simp)) ahX⟩
def cR:Code->List Code
 | .seq a b=>cR a++cR b
 | .cond _ a b=>cR a++cR b
 | .block _ c=>cR c
 | .loop c=>c::cR c
 |_=>[]
def aqQ (P:Program) (hh:Hint) (w0:World) (W0 Z:Nat->Prop) (H:Nat->Value) (ret:iI) (L:Nat->St->Ks->aa) (c:Code):Prop:=∀ (S:St) (K:Ks) (Q:Exit->Act->World->Prop) (a:Act) (w:World),(∃ ks x,AX hh.loops (keyOf c)=some ks/\S=shape ks x)->L (keyOf c) S (hh.nf (keyOf c) K)=some ret->Rel w0 W0 Z H S a w->(∀ e S a w,K e S=some ret->Rel w0 W0 Z H S a w->Q e.out a w)->(∀ c a w,¬Q (.panic c) a w)->TK P c Q a w
theorem aw9 (hm:P.follows .mixedOrders=true) (hT:kh P hh.tab=true) (hO:LM Γ P O w0 W0) {L:Nat->St->Ks->aa}:∀ (c:Code) {S:St} {K:Ks} {Q:Exit->Act->World->Prop} {a:Act} {w:World},pc hh O c=true-> (∀ c'∈cR c,aqQ P hh w0 W0 Z H ret L c')->pe hh O L c S K=some ret->Rel w0 W0 Z H S a w->(∀ e S a w,K e S=some ret->Rel w0 W0 Z H S a w->Q e.out a w)->(∀ c a w,¬Q (.panic c) a w)->c.wp P Q a w:=by
 intro c;induction c with
 |skip=>intro S K Q a w Ph hL e h hQ hQp;exact wp_skip (hQ .n S a w e h)
 |seq x y ihx ihy=>
  intro S K Q a w Ph hL e h hQ hQp;simp only[pe] at e;simp only[pc,ai] at Ph;refine wp_seq (ihx Ph.1 (λc hc=>hL c (by simp[cR,hc])) e h (λe1 S1 a1 w1 h1 h2=>?_) (λc a w=>hQp c a w));cases e1 with
  |n=>exact ihy Ph.2 (λc hc=>hL c (by simp[cR,hc])) h1 h2 hQ hQp
  |x id=>exact hQ _ _ _ _ h1 h2
  |r=>exact hQ _ _ _ _ h1 h2
 |cond c x y ihx ihy=>
  intro S K Q a w Ph hL e h hQ hQp;simp only[pe] at e;split at e;case h_2=>cases e
  rename_i m q hq;obtain⟨σ,h⟩:=h;obtain⟨cs,h1,h2,_⟩:=qi h hq;have hv:=lQ h1 h2;refine wp_cond hv ?_;simp only[pc,ai] at Ph;cases q with
  |true=>exact ihx Ph.1 (λc hc=>hL c (by simp[cR,hc])) e ⟨σ,h⟩ hQ hQp
  |false=>exact ihy Ph.2 (λc hc=>hL c (by simp[cR,hc])) e ⟨σ,h⟩ hQ hQp
 |block id c ih=>
  intro S K Q a w Ph hL e h hQ hQp;simp only[pe] at e;refine wp_block (ih (by simpa[pc] using Ph) (λc hc=>hL c (by simpa[cR] using hc)) e h (λe1 S1 a1 w1 h1 h2=>?_) (λc a w=>hQp c a w));cases e1 with
  |n=>exact hQ _ _ _ _ h1 h2
  |r=>exact hQ _ _ _ _ h1 h2
  |x id'=>
  simp only[Ex.out,Exit.inBlock];cases hb:Nat.beq id' id with
  |true=>simp only[hb,ab] at h1;rw[ay (aw hb)];exact hQ .n _ _ _ h1 h2
  |false=>simp only[hb,ae] at h1;rw[ar (λe=>by rw[e,bS] at hb;cases hb)];exact hQ (.x id') _ _ _ h1 h2
 |loop c ih=>
 intro S K Q a w Ph hL e h hQ hQp;simp only[pe] at e;split at e;case h_2=>cases e
 rename_i S1 hS1;exact(hL c (by simp[cR]) _ K Q a w (Zr hS1) e (aer h hS1) hQ hQp).wp
 |exit id=>intro S K Q a w Ph hL e h hQ hQp;exact wp_exit (hQ (.x id) S a w e h)
 |ret=>intro S K Q a w Ph hL e h hQ hQp;exact wp_ret (hQ .r S a w e h)
 |region id ops d=>
  intro S K Q a w Ph hL e h hQ hQp;have ahY:∀ a w,adz w0 W0 Z H (λS1=>K .n (aj4 hh.F5 id (aaK hh.keep S1))) ret a w->Q .normal a w:=λa w ⟨S',h1,h2⟩=>hQ .n _ a w h1 (ahP _ (akD _ h2));cases d with
  |false=>
  simp only[pe] at e;split at e;case h_2=>exact wp_region (aqJ hT hO ahY _ e h)
  rename_i l hl;simp only[pc,hl,awX] at Ph;split at Ph;case h_2=>cases Ph
  rename_i q hq;rw[aa0 _ _ Ph] at hq;exact wp_region (aao hT hO ahY l hq e h)
  |true=>
  simp only[pe] at e;split at e;case h_2=>cases e
  rename_i l hl;simp only[pc,hl] at Ph;refine wp_region_any hm (auZ hT hO ahY hQp Ph e ?_);obtain⟨σ,h⟩:=h;refine⟨σ,h.len,h.defers,⟨h.fr.os,h.fr.tape,h.fr.output,h.fr.size,h.fr.block⟩,h.new,h.lt,h.old,λi=>?_⟩;have fZ:cN w { w with drawn:=w.drawn+1 } (Av σ Z) (Av σ Z):=⟨λ_ _ _=>rfl,λ_ _ h=>h⟩;exact(h.holds i).kept fZ (λg hg _=>⟨rfl,hg⟩) (λs _=>⟨λ_ _ h=>h,rfl,_,h.holds s,λ_ _ _=>rfl⟩)
 |_=>intro S K Q a w Ph hL e h hQ hQp;simp[pe] at e
def Dg:Code->Bool
 | .seq a b=>Dg a&&Dg b
 | .cond _ a b=>Dg a&&Dg b
 | .block _ c=>Dg c
 | .loop c=>((cR c).all λc'=>!Nat.beq (keyOf c') (keyOf c))&&Dg c
 |_=>true
theorem aqR (hm:P.follows .mixedOrders=true) (hT:kh P hh.tab=true) (hO:LM Γ P O w0 W0) {Lf:Nat->Nat->St->Ks->aa} {N:Nat} (h0:∀ k S K,Lf 0 k S K=none):∀ (body:Code),pc hh O body=true->Dg body=true-> (∀ c∈cR body,∀ (n:Nat) (ks:List Kd) (x:Ff ks) (K:Ks) (r:iI),AX hh.loops (keyOf c)=some ks->Lf (n+1) (keyOf c) (shape ks x) (hh.nf (keyOf c) K)=some r->sq hh O (JE Lf N n (keyOf c)) c (shape ks x) (hh.nf (keyOf c) K)=some r)-> ∀ c∈cR body,∀ (n:Nat),aqQ P hh w0 W0 Z H ret (Lf n) c:=by
 intro body;induction body with
 |seq x y ihx ihy=>intro ho hk iM c hc n;simp only[pc,ai] at ho;simp only[Dg,ai] at hk;simp only[cR,a8] at hc iM;exact hc.elim (λhc=>ihx ho.1 hk.1 (λc hc=>iM c (.inl hc)) c hc n) (λhc=>ihy ho.2 hk.2 (λc hc=>iM c (.inr hc)) c hc n)
 |cond _ x y ihx ihy=>intro ho hk iM c hc n;simp only[pc,ai] at ho;simp only[Dg,ai] at hk;simp only[cR,a8] at hc iM;exact hc.elim (λhc=>ihx ho.1 hk.1 (λc hc=>iM c (.inl hc)) c hc n) (λhc=>ihy ho.2 hk.2 (λc hc=>iM c (.inr hc)) c hc n)
 |block id x ih=>intro ho hk iM c hc n;simp only[pc] at ho;simp only[Dg] at hk;simp only[cR] at hc iM;exact ih ho hk iM c hc n
 |loop x ih=>
  intro ho hk iM c hc n;simp only[pc] at ho;simp only[Dg,ai,aJ,bV] at hk;simp only[cR,aS] at hc iM;have lT:=ih ho hk.2 (λc hc=>iM c (.inr hc));rcases hc with rfl |hc
  ·induction n with
   |zero=>intro S K Q a w _ e;rw[h0] at e;cases e
   |succ n ihn=>
   intro S K Q a w hs e h hQ hQp;obtain⟨ks,x,XE,rfl⟩:=hs;have hr:=iM c (.inl rfl) n ks x K ret XE e;unfold sq at hr;refine TK.round (aw9 hm hT hO c ho (λc' hc'=>?_) hr h (λe1 S1 a1 w1 h1 h2=>?_) (λc a w=>hQp c a w))
   ·have hL:JE Lf N n (keyOf c) (keyOf c')=Lf N (keyOf c'):=(by funext S K;unfold JE;rw[hk.1 c' hc'];rfl);intro S K Q a w hs e;rw[hL] at e;exact lT c' hc' N S K Q a w hs e
   cases e1 with
   |n=>
   simp only at h1;split at h1;case h_2=>cases h1
   rename_i S2 hS2;have hL:JE Lf N n (keyOf c) (keyOf c)=Lf n (keyOf c):=by funext S K;unfold JE;rw[bS];rfl
   rw[hL] at h1;exact ihn _ K Q a1 w1 (Zr hS2) h1 (aer h2 hS2) hQ hQp
   |x id=>obtain⟨S2,h3,h4⟩:=amO h2 h1;exact hQ _ _ _ _ h3 h4
   |r=>obtain⟨S2,h3,h4⟩:=amO h2 h1;exact hQ _ _ _ _ h3 h4
  exact lT c hc n
 |_=>intro _ _ _ c hc;simp[cR] at hc
theorem aoI (hO:Lt O) {N:Nat} {Lf:Nat->Nat->St->Ks->aa} (h0:∀ k S K,Lf 0 k S K=none):∀ (body:Code),rE body=true-> (∀ c∈cR body,∀ (n:Nat) (ks:List Kd) (x:Ff ks) (K:Ks),AX hh.loops (keyOf c)=some ks->Lf (n+1) (keyOf c) (shape ks x) (hh.nf (keyOf c) K)=sq hh O (JE Lf N n (keyOf c)) c (shape ks x) (hh.nf (keyOf c) K))-> ∀ k∈rF body,∀ n,n=N∨k=keyOf body/\(∃ c,body=.loop c)->aob hh (Lf n) k:=by
 intro body;induction body with
 |seq a b iha ihb=>
 intro hp iM k hk n hn;simp only[rE,ai] at hp;simp only[rF,a8] at hk;simp only[cR,a8] at iM;have hn:n=N:=hn.elim id (λh=>by obtain⟨_,c,hc⟩:=h;cases hc);rcases hk with hk |hk
 ·exact iha hp.1 (λc hc=>iM c (.inl hc)) k hk n (.inl hn)
 exact ihb hp.2 (λc hc=>iM c (.inr hc)) k hk n (.inl hn)
 |cond q a b iha ihb=>
 intro hp iM k hk n hn;simp only[rE,ai] at hp;simp only[rF,a8] at hk;simp only[cR,a8] at iM;have hn:n=N:=hn.elim id (λh=>by obtain⟨_,c,hc⟩:=h;cases hc);rcases hk with hk |hk
 ·exact iha hp.1 (λc hc=>iM c (.inl hc)) k hk n (.inl hn)
 exact ihb hp.2 (λc hc=>iM c (.inr hc)) k hk n (.inl hn)
 |block bid c ih=>intro hp iM k hk n hn;have hn:n=N:=hn.elim id (λh=>by obtain⟨_,c,hc⟩:=h;cases hc);exact ih hp iM k hk n (.inl hn)
 |loop c ih=>
  intro hp iM k hk n _;simp only[rE] at hp;simp only[rF,aS] at hk;simp only[cR,aS] at iM;have lT:∀ k∈rF c,aob hh (Lf N) k:=λk hk=>ih hp (λc' hc'=>iM c' (.inr hc')) k hk N (.inl rfl);have ahS:∀ n,aob hh (Lf n) (keyOf c):=by
   intro n;induction n with
   |zero=>intro ks x _;exact⟨none,λK=>h0 _ _ _⟩
   |succ n ihn=>
   intro ks x XE;have e:(λK=>Lf (n+1) (keyOf c) (shape ks x) (hh.nf (keyOf c) K))=λK=>sq hh O (JE Lf N n (keyOf c)) c (shape ks x) (hh.nf (keyOf c) K):=funext λK=>iM c (.inl rfl) n ks x K XE;have hL:∀ k∈rF c,aob hh (JE Lf N n (keyOf c)) k:=λk hk=>by
    intro ks' x' aA1;unfold JE;cases hb:Nat.beq k (keyOf c) with
    |true=>have:=aw hb;subst this;exact ihn ks' x' aA1
    |false=>exact lT k hk ks' x' aA1
   rw[e];unfold sq;refine ov.bind (Y:=λe1 S1 K=>match e1 with
    | .n=>(match hh.clean (keyOf c) S1 with
     |some S2=>JE Lf N n (keyOf c) (keyOf c) S2 (hh.nf (keyOf c) K)
     |none=>none)
    |e1=>hh.nf (keyOf c) K e1 S1) (Tq hO c _ hp hL) λe1 S1=>?_
   cases e1 with
   |n=>
   simp only;split
   ·rename_i S2 hS2;obtain⟨ks2,x2,hk2,rfl⟩:=U6 hS2;unfold JE;rw[bS];exact ihn ks2 x2 hk2
   exact ov.none
   |x id=>exact adX hh (keyOf c) _ S1
   |r=>exact adX hh (keyOf c) _ S1
  rcases hk with rfl |hk
  ·exact ahS n
  rename_i hn;rcases hn with rfl |⟨rfl,_⟩
  ·exact lT k hk
  exact ahS n
 |_=>intro _ _ k hk;simp[rF] at hk
end Go.Pv
namespace Go.Pv
open List Int IntKind
variable {Γ:Gl} {P:Program} {w w':World} {A A' Wr:Nat->Prop} {H:Nat->Value} {tm N':Nat->Value} {S S' S1:St} {σ eo lU:Nat->Option Nat} {w0:World} {W0 Z:Nat->Prop} {a:Act} {own:Nat->Prop} {v:Value} {Θ:kR} {dst:Option Nat} {O:va} {hh:Hint} {Q:Exit->Act->World->Prop} {ret:iI} {ops:Array Oper}
def ahZ (a:Act):ResultVar->Sem Value
 | .tmp t=>pure (a.tmps.getD t undef)
 | .cell c t=>do loadVar t (←asAddr (a.tmps.getD c undef))
theorem Zs (hT:kh P Θ=true):∀ (rs:List ResultVar) (j:Nat) {S S1:St} {σ:Nat->Option Nat} {l:List TV},cY σ w0 W0 Z H S a w->KV Θ S rs=some (l,S1)-> ∃ (eo:Nat->Option Nat) (ow:Nat->Prop) (τ:Nat->Nat) (vs:List Value),(cY eo w0 W0 Z H S1 a w/\S1.length=S.length)/\wb σ eo S.length ow/\l.length=rs.length/\(∀ g,ow g->j<=τ g)/\(rs.mapM (ahZ a)).run P w=.ok vs w/\vs.length=rs.length/\ ∀ (k:Nat) (b:TV),l[k]?=some b->∃ u cs,vs[k]?=some u/\a6 b.t u cs/\M w (Av σ Z) H b.t b.m b.x cs (λg=>ow g/\τ g=j+k) []
 |[],j,S,S1,σ,l,h,e=>by simp only[KV,ah,aF] at e;obtain⟨rfl,rfl⟩:=e;exact⟨σ,λ_=>False,λ_=>j,[],⟨h,rfl⟩,wb.none _ _,rfl,λ_ h=>h.elim,by simp,rfl,λk b hk=>by simp at hk⟩
 |q::r,j,S,S1,σ,l,h,e=>by
  have key:∃ (b:TV) (l2:List TV) (S2:St) (u:Value) (eo:Nat->Option Nat) (cs:List Value) (ow:Nat->Prop),l=b::l2/\cY eo w0 W0 Z H S2 a w/\KV Θ S2 r=some (l2,S1)/\(ahZ a q).run P w=.ok u w/\
    a6 b.t u cs/\M w (Av σ Z) H b.t b.m b.x cs ow []/\wb σ eo S.length ow/\S2.length=S.length:=by
   cases q with
   |tmp t=>
    simp only[KV] at e
    split at e
    case h_2=>cases e
    rename_i b S2 hb
    split at e
    case h_2=>cases e
    rename_i l2 S3 hl
    simp only[ah,aF] at e
    obtain⟨rfl,rfl⟩:=e
    obtain⟨eo,cs,ow,h1,hm,hM,hk,hn⟩:=rM (Θ:=[]) (T:=0) (x:=.tmp t) h rfl hb
    exact⟨b,l2,S2,gM a t,eo,cs,ow,rfl,h1,hl,rfl,hm,hM,hk,hn⟩
   |cell t T=>
    simp only[KV] at e
    split at e
    case h_2=>cases e
    rename_i ty T' tag me x nI
    split at e
    case h_2=>cases e
    rename_i l2 S3 hl
    cases hs:Θ.is T ty with
    |false=>rw[hs] at e;cases e
    |true=>
    rw[hs] at e
    simp only[ab,ah,aF] at e
    obtain⟨rfl,rfl⟩:=e
    have hh:=h.holds t
    rw[nI] at hh
    obtain⟨cs,h1,h2⟩:=hh
    simp only[M] at h2
    rcases h2 with⟨hn,_⟩ |⟨hk,_⟩ |⟨T2,ahx,me2,g,cur,e2,rfl,ht,hg,hw,hM⟩
    ·simp at hn
    ·simp[Md.eY] at hk
    ·injection e2 with e2 e2' ayn
     subst e2 e2' ayn
     have hlen:=(rB ty hM).1
     have wu:rowAt w g 0 ty.size=some cur.toList:=by
      rw[eG hw (by rw[←hlen];simp),dJ,cw (by omega)]
     obtain⟨u,hu,hmu⟩:=aa7 (P:=P) hT hs wu
     have hv:gM a t=.pointer (some ⟨g,0,none⟩):=by simpa[a6,isAgg] using h1.symm
     have iu:(ahZ a (.cell t T)).run P w=.ok u w:=by
      have h3:=hu w (Ext.refl w)
      simp only[Instr.loadAt,Instr.sureAddr,aZ,cW,aV] at h3
      have hv':a.tmps.getD t undef=.pointer (some ⟨g,0,none⟩):=hv
      simp only[ahZ,hv',asAddr,aZ,cW,aV]
      exact h3
     exact⟨⟨ty,_,x⟩,l2,_,u,_,cur.toList,λg'=>σ g'=some t/\g'≠g,rfl,h.Db t,hl,iu,hmu,b8 (cN.refl _ _) _ (λ_ _ _=>rfl) (λg' dH _=>dH) (λ_ h=>by simp[sub] at h) hM,wb.Db σ (qs (by rw[nI];exact λe=>by cases e)) (λg' dH=>dH.1),eC _ _ _⟩
  obtain⟨b,l2,S2,u,eo,cs,ow,rfl,h1,hl,iu,hm,hM,hk,hn⟩:=key;obtain⟨lU,LF,τ,vs,⟨k2,k2'⟩,k3,k4,k5,k6,k6',k7⟩:=Zs hT r (j+1) h1 hl;rw[hn] at k3;have hap:∀ g,ow g->¬LF g:=λg hg=>hk.apart k3 hg;let τ':Nat->Nat:=λg=>open Classical in if ow g then j else τ g
  refine⟨lU,λg=>ow g∨LF g,τ',u::vs,⟨k2,by omega⟩,hk.trans k3,by simp[k4],λg hg=>?_,?_,by simp[k6'],λk b' uH=>?_⟩
  ·simp only[τ'];split
   ·exact aM _
   rename_i hx;have:=k5 g (hg.resolve_left hx);omega
  ·rw[su];simp only[aZ,iu,aV,k6,cW]
  cases k with
  |zero=>simp only[aD,ah] at uH;subst uH;exact⟨u,cs,rfl,hm,b8 (cN.refl _ _) _ (λ_ _ _=>rfl) (λg hg _=>⟨.inl hg,by simp only[τ',ay hg,dM]⟩) (λ_ h=>h) hM⟩
  |succ k=>obtain⟨u',kS,q1,q2,q3⟩:=k7 k b' (by simpa using uH);refine⟨u',kS,by simpa using q1,q2,b8 ⟨λ_ _ _=>rfl,λg _ hg=>hk.Av.2 hg⟩ _ (λ_ _ _=>rfl) (λg hg _=>⟨.inr hg.1,?_⟩) (λ_ h=>h) q3⟩;simp only[τ'];rw[ar (λhx=>hap g hx hg.1),hg.2];omega
theorem ah0 {fn:Func} {vs:List Value} (hv:(fn.results.toList.mapM (ahZ a)).run P w=.ok vs w):(results fn a.tmps).run P w=.ok (amI vs) w:=by
 have aA2:∀ vs:List Value,(if h:vs.toArray.size=1 then vs.toArray[0] else Value.tuple vs.toArray)=amI vs:=by
  intro vs
  match vs with
  |[]=>rfl
  |[u]=>rfl
  |u::u'::r=>rw[pf (by simp)];rfl
 unfold results;rw[aZ,Array.mapM_eq_mapM_toList];rw[map_eq_pure_bind,aZ];erw [hv];simp only[aV,cW,aA2]
theorem ayo {dr:Bool} {b c:TV} {cs:List Value} {ow:Nat->Prop} (h:aaL dr b=some c) (hM:M w A H b.t b.m b.x cs ow []):∃ cs,M w A H c.t c.m c.x cs ow []:=by
 unfold aaL at h;split at h
 ·injection h with h;subst h;exact⟨cs,hM⟩
 ·injection h with h;subst h;simp only[M] at hM;rcases hM with⟨hn,_⟩ |⟨hk,_⟩ |⟨T2,ahx,me2,g,cur,e2,rfl,ht,hg,hw,hM⟩
  ·simp at hn
  ·simp[Md.eY] at hk
  injection e2 with e2 e2' ayn;subst e2 e2' ayn;exact⟨cur.toList,b8 (cN.refl _ _) _ (λ_ _ _=>rfl) (λg hg _=>hg.1) (λ_ h=>by simp[sub] at h) hM⟩
 cases h
theorem ayp (hm : P.follows .mixedOrders = true) (hT : kh P hh.tab = true) (hS : aye Γ P O) {f : FuncId} {fn : Func} {body : Code} (hf : P.funcs[f]? = some fn) (hb : fn.body = some body) (hnm : (fn.name == "runtime.NumGoroutine") = false)
  (Ph:pc hh O body=true) (hky:Dg body=true) {N:Nat} {Lf:Nat->Nat->St->Ks->aa} (h0:∀ k S K,Lf 0 k S K=none)
  (iM:∀ c∈cR body,∀ (n:Nat) (ks:List Kd) (x:Ff ks) (K:Ks) (r:iI),AX hh.loops (keyOf c)=some ks->Lf (n+1) (keyOf c) (shape ks x) (hh.nf (keyOf c) K)=some r->sq hh O (JE Lf N n (keyOf c)) c (shape ks x) (hh.nf (keyOf c) K)=some r)
  {run:List Arg->(iI->aa)->aa} (iu:∀ args kf r,run args kf=some r->args.length<=fn.ntmps/\tU hh O (Lf N) fn args kf=some r):amJ Γ P f run:=by
 intro args kf ret w σ fe H B hr lT
 obtain⟨hlen,hr⟩:=iu args kf ret hr
 unfold tU at hr
 rw[hb] at hr
 simp only at hr
 have ayq : ¬ fn.name = "runtime.NumGoroutine" := by simpa using hnm
 refine .inl ⟨by simp[callFunc,hf,ayq,hb],calls_of_wp hf hb ?_⟩
 let a0:Act:={ tmps:=fe.toArray++Array.replicate (fn.ntmps - fe.toArray.size) undef,defers:=[] }
 have hO:LM Γ P O w (Own σ):=⟨hS,λg o hg=>⟨λ⟨i,hi⟩=>(by rw[(lT.env g o hg).1] at hi;cases hi),(lT.env g o hg).2⟩⟩
 have hR:cY σ w (Own σ) B H (start fn args) a0 w:=by
  refine⟨?_,rfl,⟨rfl,rfl,rfl,aM _,λ_ _ _=>rfl⟩,λg i hg=>.inr ⟨i,hg⟩,λg i hg=>(lT.lt g i hg).2,lT.old,λi=>?_⟩
  ·simp only[start,a0,ax,aY,dz,je,cd,Array.size_replicate,lT.len]
  ·have htm:gM a0 i=if h:i<fe.length then fe[i] else undef:=by
    unfold gM
    simp only[a0]
    rw[eW]
    split
    ·rename_i hl
     rw[Array.getElem?_append_left (by simpa using hl)]
     simp[hl]
    ·rename_i hl
     rw[Array.getElem?_append_right (by simpa using hl),Array.getElem?_replicate]
     split<;>rfl
   have nI:(start fn args).at i=if h:i<args.length then awY args[i] else if i<fn.ntmps then .undef else .dead:=by
    unfold start St.at
    rw[aG]
    split
    ·rename_i hl
     rw[dL (by simpa using hl),bO,aN hl]
     rfl
    ·rename_i hl
     rw[cG (by simpa using hl),lE]
     simp only[aY]
     by_cases hn:i<fn.ntmps
     ·rw[ay (by omega),ay hn];rfl
     ·rw[ar (by omega),ar hn];rfl
   rw[nI,htm]
   by_cases hl:i<args.length
   ·rw[jc hl,jc (by rw[lT.len];exact hl)]
    obtain⟨v,hv,AQ⟩:=lT.ok i args[i] (aN hl)
    rw[aN (by rw[lT.len];exact hl)] at hv
    injection hv with hv
    rw[hv]
    cases hai:args[i] with
    |tv b=>
     rw[hai] at AQ
     exact AQ
    |fn f' kn=>
     rw[hai] at AQ
     obtain⟨vs,v1,v2,v3⟩:=AQ
     refine⟨vs,v1,by rw[v2,aY],λj c hj=>?_⟩
     rw[bO] at hj
     cases hc:kn[j]? with
     |none=>rw[hc] at hj;cases hj
     |some c'=>
      rw[hc] at hj
      simp only[aP,ah] at hj
      subst hj
      exact v3 j c' hc
   ·rw[pf hl,pf (by rw[lT.len];exact hl)]
    split
    ·rfl
    ·trivial
 refine aw9 (Q:=bodyPost P fn _) hm hT hO body Ph (λc hc=>aqR hm hT hO h0 body Ph hky iM c hc N) hr ⟨σ,hR⟩ (λe S a1 w1 he aDo=>?_) (λc a w hq=>hq.2.elim)
 obtain⟨eo,h1⟩:=aDo
 have fin:∀ (x:aa),(match KV hh.tab S fn.results.toList with
   |some (l,S1)=>(match hh.pK with
    |none=>kf ⟨l,[]⟩
    |some q=>match S1.at q.1 with
     | .v b []=>(match aaL q.2 b with
      |some c=>kf ⟨l,[c]⟩
      |none=>none)
     |_=>none)
   |none=>none)=x->x=some ret->a1.defers=[]/\∃ v,(results fn a1.tmps).run P w1=.ok v w1/\∃ rt,kf rt=some ret/\Out B H w w1 σ rt v:=by
  intro x hx UY
  subst hx
  split at UY
  case h_2=>cases UY
  rename_i l S1 hl
  obtain⟨lU,ow,τ,vs,⟨k2,k2'⟩,k3,k4,k5,k6,k6',k7⟩:=Zs hT fn.results.toList 0 h1 hl
  refine⟨h1.defers,_,ah0 k6,?_⟩
  cases aw':hh.pK with
  |none=>
   rw[aw'] at UY
   refine⟨_,UY,⟨h1.fr,?_⟩⟩
   let nF:Nat->Option Nat:=λg=>open Classical in if ow g then some (τ g) else none
   have ayr:∀ g i,nF g=some i↔ow g/\τ g=i:=λg i=>by
    simp only[nF]
    split
    ·rename_i hx;exact⟨λhg=>⟨hx,by injection hg⟩,λhg=>by rw[hg.2]⟩
    ·rename_i hx;exact⟨λhg=>(by cases hg),λhg=>absurd hg.1 hx⟩
   refine⟨nF,vs,rfl,by rw[k4,k6'],λg i hg=>?_,λi b hb=>?_,λc hc=>by cases hc⟩
   ·obtain⟨j,_,hj⟩:=k3.was g ((ayr g i).1 hg).1
    exact⟨h1.new g j hj,h1.lt g j hj⟩
   ·obtain⟨u,cs,u1,u2,u3⟩:=k7 i b hb
    refine⟨u,cs,u1,u2,b8 ⟨λ_ _ _=>rfl,λg _ hg=>?_⟩ _ (λ_ _ _=>rfl) (λg hg _=>(ayr g i).2 ⟨hg.1,by rw[hg.2];omega⟩) (λ_ h=>h) u3⟩
    rcases hg with⟨i,hi⟩ |hz
    ·obtain⟨j,_,hj⟩:=k3.was g ((ayr g i).1 hi).1
     exact .inl ⟨j,hj⟩
    ·exact .inr hz
  |some ql=>
   obtain⟨jl,dr⟩:=ql
   rw[aw'] at UY
   simp only at UY
   split at UY
   case h_2=>cases UY
   rename_i bl0 aA3
   split at UY
   case h_2=>cases UY
   rename_i bl hbl
   refine⟨_,UY,⟨h1.fr,?_⟩⟩
   have Oe:jl<S.length:=by rw[←k2'];exact qs (by rw[aA3];exact λe=>by cases e)
   let nF:Nat->Option Nat:=λg=>open Classical in if ow g then(if τ g<l.length then some (τ g) else none) else if lU g=some jl then some l.length else none
   have aa':∀ g i,nF g=some i->(ow g/\τ g=i/\i<l.length)∨(¬ow g/\lU g=some jl/\i=l.length):=λg i hg=>by
    simp only[nF] at hg
    split at hg
    ·split at hg
     ·injection hg with hg;exact .inl ⟨by assumption,hg,by omega⟩
     ·cases hg
    ·split at hg
     ·injection hg with hg;exact .inr ⟨by assumption,by assumption,hg.symm⟩
     ·cases hg
   have afy:∀ g i,ow g->τ g=i->i<l.length->nF g=some i:=λg i h1 h2 h3=>by
    simp only[nF,ay h1]
    rw[h2,ay h3]
   have aDp:∀ g,lU g=some jl->nF g=some l.length:=λg hg=>by
    have Rx: ¬ow g:=λhx=>by
     obtain⟨i,hi,Ba⟩:=k3.now g hx
     rw[hg] at Ba
     injection Ba with Ba
     omega
    simp only[nF,ar Rx,ay hg]
   have ays:∀ g i,nF g=some i->∃ j,eo g=some j:=λg i hg=>by
    rcases aa' g i hg with⟨hx,_⟩ |⟨_,hx,_⟩
    ·obtain⟨j,_,hj⟩:=k3.was g hx;exact⟨j,hj⟩
    ·exact(k3.dom g).1 ⟨jl,hx⟩
   refine⟨nF,vs,rfl,by rw[k4,k6'],λg i hg=>?_,λi b hb=>?_,λc hc=>?_⟩
   ·obtain⟨j,hj⟩:=ays g i hg
    exact⟨h1.new g j hj,h1.lt g j hj⟩
   ·obtain⟨u,cs,u1,u2,u3⟩:=k7 i b hb
    have hil:i<l.length:=(bL.1 hb).1
    refine⟨u,cs,u1,u2,b8 ⟨λ_ _ _=>rfl,λg _ hg=>?_⟩ _ (λ_ _ _=>rfl) (λg hg _=>afy g i hg.1 (by rw[hg.2];omega) hil) (λ_ h=>h) u3⟩
    rcases hg with⟨i,hi⟩ |hz
    ·exact .inl (ays g i hi)
    ·exact .inr hz
   ·injection hc with hc
    subst hc
    have hh:=k2.holds jl
    rw[aA3] at hh
    obtain⟨cs,_,hM⟩:=hh
    obtain⟨cs,hM⟩:=ayo hbl hM
    refine⟨cs,b8 ⟨λ_ _ _=>rfl,λg _ hg=>?_⟩ _ (λ_ _ _=>rfl) (λg hg _=>aDp g hg) (λ_ h=>h) hM⟩
    rcases hg with⟨i,hi⟩ |hz
    ·obtain⟨j,hj⟩:=ays g i hi
     exact k3.Av.2 (.inl ⟨j,hj⟩)
    ·exact .inr hz
 cases e with
 |n=>exact fin _ rfl he
 |r=>exact fin _ rfl he
 |x id=>cases he
end Go.Pv
namespace Go.Pv
open List Int IntKind
@[reducible] def share {α β:Type} (x:α) (k:α->β):β:=k x
inductive AK where
 |v (t:Ty) (m:Md) |fn (f:FuncId) (ts:List Ty)
@[reducible] def SH:List Ty->Type
 |[]=>Unit
 |t::r=>t.I×SH r
def D8:(ts:List Ty)->SH ts->List TV
 |[],_=>[]
 |t::r,x=>⟨t,.k,x.1⟩::D8 r x.2
def aes:(ts:List Ty)->List TV->Option (SH ts)
 |[],[]=>some ()
 |t::r,⟨t',m',x⟩::S=>if h:t'=t then(if m'=.k then match aes r S with
  |some y=>some (h▸x,y)
  |none=>none else none) else none
 |_,_=>none
@[reducible] def fu:List AK->Type
 |[]=>Unit
 | .v t _::r=>t.I×fu r
 | .fn _ ts::r=>SH ts×fu r
def jD:(l:List AK)->fu l->List Arg
 |[],_=>[]
 | .v t m::r,x=>.tv ⟨t,m,x.1⟩::jD r x.2
 | .fn f ts::r,x=>.fn f (D8 ts x.1)::jD r x.2
def JT:(l:List AK)->List Arg->Option (fu l)
 |[],[]=>some ()
 | .v t m::r,.tv ⟨t',m',x⟩::S=>if h:t'=t then(if m'=m then match JT r S with
  |some y=>some (h▸x,y)
  |none=>none else none) else none
 | .fn f ts::r,.fn f' kn::S=>bif Nat.beq f' f then(match aes ts kn,JT r S with
  |some y,some z=>some (y,z)
  |_,_=>none) else none
 |_,_=>none
theorem ah1:∀ (ts:List Ty) (S:List TV) {x:SH ts},aes ts S=some x->S=D8 ts x
 |[],[],x,_=>rfl
 |[],_::_,x,e=>by simp[aes] at e
 |_::r,[],x,e=>by simp[aes] at e
 |t::r,b::S,x,e=>by
  obtain⟨bt,bm,bx⟩:=b;simp only[aes] at e;split at e;case isFalse=>cases e
  rename_i ht;subst ht;split at e;case isFalse=>cases e
  rename_i hm;subst hm;split at e;case h_2=>cases e
  rename_i y hy;injection e with e;subst e;simp[D8,←ah1 r S hy]
theorem uK:∀ (l:List AK) (S:List Arg) {x:fu l},JT l S=some x->S=jD l x
 |[],[],x,_=>rfl
 |[],_::_,x,e=>by simp[JT] at e
 | .v _ _::r,[],x,e=>by simp[JT] at e
 | .fn _ _::r,[],x,e=>by simp[JT] at e
 | .v _ _::r,.fn _ _::S,x,e=>by simp[JT] at e
 | .fn _ _::r,.tv _::S,x,e=>by simp[JT] at e
 | .v t m::r,.tv b::S,x,e=>by
  obtain⟨bt,bm,bx⟩:=b;simp only[JT] at e;split at e;case isFalse=>cases e
  rename_i ht;subst ht;split at e;case isFalse=>cases e
  rename_i hm;subst hm;split at e;case h_2=>cases e
  rename_i y hy;injection e with e;subst e;simp[jD,←uK r S hy]
 | .fn f ts::r,.fn f' kn::S,x,e=>by
  simp only[JT] at e;cases hb:Nat.beq f' f with
  |false=>rw[hb] at e;cases e
  |true=>
  rw[hb] at e;simp only[ab] at e;have:=aw hb;subst this;split at e;case h_2=>cases e
  rename_i y z hy hz;injection e with e;subst e;simp[jD,←uK r S hz,←ah1 ts kn hy]
theorem K0:∀ (l:List AK) (x:fu l),(jD l x).length=l.length
 |[],_=>rfl
 | .v _ _::r,x=>by simp[jD,K0 r x.2]
 | .fn _ _::r,x=>by simp[jD,K0 r x.2]
def c9 (l:List AK) (F:fu l->(iI->aa)->aa):List Arg->(iI->aa)->aa:=λas kf=>match JT l as with
 |some x=>F x kf
 |none=>none
def amP (l:List AK) (F:fu l->(iI->aa)->aa) (g:List Arg->(iI->aa)->aa):List Arg->(iI->aa)->aa:=λas kf=>match JT l as with
 |some x=>F x kf
 |none=>g as kf
def wA (ks:List Kd) (S:St) (f:Ff ks->aa):aa:=match proj ks S with
 |some x=>f x
 |none=>none
theorem xk {ks:List Kd} {S:St} {f:Ff ks->aa} (h:∀ x,f x=none):wA ks S f=none:=by
 unfold wA;split
 ·exact h _
 rfl
theorem afJ {c:Bool} {a b:aa} (ha:a=none) (hb:b=none):(bif c then a else b)=none:=by cases c<;>assumption
section
variable {Γ:Gl} {P:Program}
theorem abv {f:FuncId} {l:List AK} {F:fu l->(iI->aa)->aa} {g:List Arg->(iI->aa)->aa} (h1:Sound Γ P f (c9 l F)) (h2:Sound Γ P f g):Sound Γ P f (amP l F g):=by
 refine⟨?_,λas=>?_⟩
 ·intro args kf ret w σ fe H B hr lT;unfold amP at hr;split at hr
  ·rename_i x hx;exact h1.1 args kf ret w σ fe H B (by unfold c9;rw[hx];exact hr) lT
  exact h2.1 args kf ret w σ fe H B hr lT
 have h3:=h1.2 as;unfold c9 at h3;unfold amP;cases hx:JT l as with
 |some x=>rw[hx] at h3;exact h3
 |none=>exact h2.2 as
theorem abw {f:FuncId}:Sound Γ P f (λ_ _=>none):=⟨λ_ _ _ _ _ _ _ _ h=>(by cases h),λ_=>ja.none⟩
theorem wB {f:FuncId} {run:List Arg->(iI->aa)->aa} (h:∀ as kf,run as kf=none):Sound Γ P f run:=⟨λ_ _ _ _ _ _ _ _ e=>(by rw[h] at e;cases e),λas=>⟨none,λK=>h as K⟩⟩
def EOK (Γ:Gl) (P:Program):List Entry->Prop
 |[]=>True
 |e::r=>Sound Γ P e.f e.run/\EOK Γ P r
theorem afK:∀ {l:List Entry},EOK Γ P l->∀ e∈l,Sound Γ P e.f e.run
 |[],_,e,h=>by cases h
 |e'::r,h,e,he=>by
  rcases aS.1 he with rfl |he
  ·exact h.1
  exact afK h.2 e he
def PI (hh:Hint) (O:va) (Lf:Nat->Nat->St->Ks->aa) (N:Nat):List Code->Prop
 |[]=>True
 |c::r=>(∀ (n:Nat) (ks:List Kd),AX hh.loops (keyOf c)=some ks->∀ (x:Ff ks) (K:Ks),Lf (n+1) (keyOf c) (shape ks x) (hh.nf (keyOf c) K)=sq hh O (JE Lf N n (keyOf c)) c (shape ks x) (hh.nf (keyOf c) K))/\PI hh O Lf N r
theorem TL {hh:Hint} {O:va} {Lf:Nat->Nat->St->Ks->aa} {N:Nat}:∀ {l:List Code},PI hh O Lf N l->∀ c∈l,∀ (n:Nat) (ks:List Kd),AX hh.loops (keyOf c)=some ks->∀ (x:Ff ks) (K:Ks),Lf (n+1) (keyOf c) (shape ks x) (hh.nf (keyOf c) K)=sq hh O (JE Lf N n (keyOf c)) c (shape ks x) (hh.nf (keyOf c) K)
 |[],_,c,h=>by cases h
 |c'::r,h,c,hc=>by
  rcases aS.1 hc with rfl |hc
  ·exact h.1
  exact TL h.2 c hc
theorem zz {hh:Hint} {O:va} {Lf:Nat->Nat->St->Ks->aa} {N:Nat} {c:Code} {l:List Code} {key:Nat} {ks:List Kd} (hk:keyOf c=key) (hh1:AX hh.loops key=some ks) (h:∀ (n:Nat) (x:Ff ks) (K:Ks),Lf (n+1) key (shape ks x) (hh.nf key K)=sq hh O (JE Lf N n key) c (shape ks x) (hh.nf key K)) (hr:PI hh O Lf N l):PI hh O Lf N (c::l):=by refine⟨λn ks' XE x K=>?_,hr⟩;rw[hk] at XE ⊢;rw[hh1] at XE;injection XE with XE;subst XE;exact h n x K
theorem qn (hm : P.follows .mixedOrders = true) {hh : Hint} (hT : kh P hh.tab = true) {es : List Entry} (hO : EOK Γ P es) {f : FuncId} {fn : Func} {body : Code} (hf : P.funcs[f]? = some fn) (hb : fn.body = some body) (hnm : (fn.name == "runtime.NumGoroutine") = false)
  (Ph:pc hh (va.of es) body=true) (hky:Dg body=true) {N:Nat} {Lf:Nat->Nat->St->Ks->aa} (h0:∀ k S K,Lf 0 k S K=none) {ls:List Code} (hls:cR body=ls) (iM:PI hh (va.of es) Lf N ls) {l:List AK} {F:fu l->(iI->aa)->aa}
  (hlen:Nat.ble l.length fn.ntmps=true) (hF:∀ x kf,F x kf=tU hh (va.of es) (Lf N) fn (jD l x) kf) (X9:rE body=true∨∀ x,ja (F x)):Sound Γ P f (c9 l F):=by
 refine⟨?_,λas=>?_⟩
 rotate_left
 ·unfold c9
  cases hx:JT l as with
  |none=>exact ja.none
  |some x=>
   rcases X9 with hp |X9
   rotate_left
   ·exact X9 x
   have hd:Lt (va.of es):=λf=>(aqx (afK hO) f).2
   have:=aj7 (h:=hh) hd (L:=Lf N) (fn:=fn) hb hp (λk hk=>aoI hd h0 body hp (λc hc n ks x K XE=>by rw[hls] at hc;exact TL iM c hc n ks XE x K) k hk N (.inl rfl)) (jD l x)
   have e:(λkf=>F x kf)=λkf=>tU hh (va.of es) (Lf N) fn (jD l x) kf:=funext λkf=>hF x kf
   show ja λkf=>F x kf
   rw[e]
   exact this
 refine ayp hm hT (aqx (afK hO)) hf hb hnm Ph hky (N:=N) h0 (λc hc n ks x K r XE hr=>?_) (λargs kf r hr=>?_)
 ·rw[hls] at hc
  rw[←TL iM c hc n ks XE x K]
  exact hr
 ·unfold c9 at hr
  split at hr
  case h_2=>cases hr
  rename_i x hx
  have:=uK l args hx
  subst this
  exact⟨by rw[K0];exact bJ hlen,by rw[←hF];exact hr⟩
end
def akL (x:Int):List Int->List Int
 |[]=>[x]
 |y::r=>bif decide (x<=y) then x::y::r else y::akL x r
def Ae:List Int->List Int
 |[]=>[]
 |x::r=>akL x (Ae r)
theorem Ya (x:Int):∀ l,(akL x l).Perm (x::l)
 |[]=>.refl _
 |y::r=>by
  unfold akL;cases decide (x<=y) with
  |true=>exact .refl _
  |false=>exact((Ya x r).cons y).trans (.swap x y r)
theorem ah2 (x:Int):∀ l:List Int,l.Pairwise (λa b=>a<=b)->(akL x l).Pairwise (λa b=>a<=b)
 |[],_=>by simp[akL]
 |y::r,h=>by
  obtain⟨h1,h2⟩:=bZ.1 h;unfold akL;by_cases hx:x<=y
  ·rw[af hx,ab];refine bZ.2 ⟨λz hz=>?_,h⟩;rcases aS.1 hz with rfl |hz
   ·exact hx
   have:=h1 z hz;omega
  rw[an hx,ae];refine bZ.2 ⟨λz hz=>?_,ah2 x r h2⟩;rcases aS.1 ((Ya x r).mem_iff.1 hz) with rfl |hz
  ·omega
  exact h1 z hz
theorem Nx:∀ l,(Ae l).Perm l
 |[]=>.refl _
 |x::r=>(Ya x _).trans ((Nx r).cons x)
theorem Yb:∀ l,(Ae l).Pairwise (λa b=>a<=b)
 |[]=>.nil
 |x::r=>ah2 x _ (Yb r)
theorem ah3 (l:List Int):l.mergeSort (λx y=>decide (x<=y))=Ae l:=
 List.Perm.eq_of_pairwise (le:=λa b=>a<=b) (λa b _ _ h1 h2=>by omega) ((List.pairwise_mergeSort (le:=λx y:Int=>decide (x<=y)) (λa b c=>by simp only[au];omega) (λa b=>by simp only[bd,au];omega) l).imp λ{a b} h=>by simpa using h) (Yb l) ((List.mergeSort_perm l _).trans (Nx l).symm)
def mL (x:Int):List Int->List Int
 |[]=>[]
 |y::r=>bif y==x then mL x r else y::mL y r
def oZ:List Int->List Int
 |[]=>[]
 |x::r=>x::mL x r
end Go.Pv
namespace Go.Pv
open List Int IntKind
def qX (n:Int):ByteArray:=⟨(Lib.itoa n).toArray⟩
def LP (s:ByteArray) (c:Int):Int:=Lib.indexByte s.data.toList (toNat c).toUInt8
def Bd (s sep:ByteArray):List ByteArray:=Lib.splitB sep 0 (Lib.countB s sep) s
def aD' (s sep:ByteArray):ByteArray:=⟨(Lib.cut s.data.toList sep.data.toList).1.toArray⟩
def aEa (s sep:ByteArray):ByteArray:=⟨(Lib.cut s.data.toList sep.data.toList).2.1.toArray⟩
def aEb (s sep:ByteArray):Bool:=(Lib.cut s.data.toList sep.data.toList).2.2
def JU (xs:List ByteArray) (sep:ByteArray):ByteArray:=⟨(Lib.join (xs.map (·.data.toList)) sep.data.toList).toArray⟩
def TM (k:IntKind) (x:Int):Int:=k.wrap (BitVec.ofInt k.bits (if k.signed then -1 else k.max)^^^BitVec.ofInt k.bits x).toNat
end Go.Pv
namespace Go.Pv
open List Int IntKind
variable {P:Program} {w:World} {Θ:kR} {Wr:Nat->Prop}
def wf:(t:Ty)->t.I->Prop
 | .int k,n=>(Lit.int k n).wf=true
 | .bool,_=>True
 | .str,s=>s.size<=maxLen
 | .unit,_=>True
 | .sl t,xs=>xs.length<=maxLen/\∀ x∈xs,wf t x
 | .ptr t,x=>wf t x
 | .pair a b,x=>wf a x.1/\wf b x.2
 | .arr _ t,xs=>∀ x∈xs,wf t x
 | .mp,_=>False
def aqS (Θ:kR):Bool:=Θ.all λi=>match i.fs,i.ty with
 |[_],.pair _ .unit=>true
 |[_],_=>false
 |[],.pair _ _=>false
 |_,.arr _ _=>false
 |_,.mp=>false
 |_,_=>true
theorem ah4 {i:TI} (h:(match i.fs,i.ty with
 |[_],.pair _ .unit=>true
 |[_],_=>false
 |[],.pair _ _=>false
 |_,.arr _ _=>false
 |_,.mp=>false
 |_,_=>true)=true):(∀ n t,i.ty≠ .arr n t)/\i.ty≠ .mp:=by
 split at h<;>simp_all
theorem aoJ {base:Nat} {a:Addr} {n:Nat} {cs:List Value} (h:w.cells? base a n=some cs):cs.length=n/\∀ j,j<n->w.cell? (a.add j)=cs[j]?:=by
 unfold World.cells? at h;split at h;case isFalse=>cases h
 have key:∀ (l:List Nat) (cs:List Value),(l.mapM λi=>w.cell? (a.add i))=some cs->cs.length=l.length/\∀ j (hj:j<l.length),w.cell? (a.add l[j])=cs[j]?:=by
  intro l;induction l with
  |nil=>intro cs h;simp at h;subst h;exact⟨rfl,λj hj=>by simp at hj⟩
  |cons i r ih=>
  intro cs h;rw[su] at h;cases h1:w.cell? (a.add i) with
  |none=>rw[h1] at h;cases h
  |some v=>
  rw[h1] at h;cases h2:(r.mapM λi=>w.cell? (a.add i)) with
  |none=>rw[h2] at h;cases h
  |some vs=>
  rw[h2] at h;injection h with h;subst h;obtain⟨k1,k2⟩:=ih vs h2;refine⟨by simp[k1],λj hj=>?_⟩;cases j with
  |zero=>simpa using h1
  |succ j=>simpa using k2 j (by simpa using hj)
 obtain⟨h1,h2⟩:=key _ _ h;refine⟨by simpa using h1,λj hj=>?_⟩;have:=h2 j (by simpa using hj);simpa using this
theorem ah5 (g off n:Nat):(⟨g,off,none⟩:Addr).add n=⟨g,off+n,none⟩:=A6 g off n
theorem aet {base:Nat} {a:Addr} {n:Nat} {cs:List Value} (hn:0<n) (h:w.cells? base a n=some cs):∃ cur T fr,a=⟨a.block,a.off,none⟩/\w.heap[a.block]?=some (.cells cur T fr)/\a.off+n<=cur.size/\cs=(cur.toList.drop a.off).take n:=by
 obtain⟨h1,h2⟩:=aoJ h;have h0:=h2 0 hn;have e0:a.add 0=a:=by unfold Addr.add;rw[ay rfl]
 rw[e0] at h0;unfold World.cell? at h0;obtain⟨v,hv⟩:∃ v,cs[0]?=some v:=⟨_,aN (by omega)⟩;rw[hv] at h0;split at h0;case h_2=>cases h0
 rename_i cur T fr hw;split at h0
 ·cases h0
 rename_i hs;have hsp:a.spot=none:=by cases hx:a.spot with
  |none=>rfl
  |some _=>rw[hx] at hs;simp at hs
 have ha:a=⟨a.block,a.off,none⟩:=by cases a;simp only at hsp;subst hsp;rfl
 have SA:∀ j,j<n->cur[a.off+j]?=cs[j]?:=λj hj=>by have:=h2 j hj;rw[ha,ah5] at this;simpa[World.cell?,hw] using this
 have hb:a.off+n<=cur.size:=by have:=SA (n - 1) (by omega);rw[aN (show n - 1<cs.length by omega)] at this;have:=dh this;omega
 refine⟨cur,T,fr,ha,hw,hb,?_⟩;apply cU;intro j;by_cases hj:j<n
 ·rw[bM,ay hj,cr,←SA j hj,bI]
 rw[cv (by omega),cv (by rw[aH];omega)]
theorem mapM_at {α β:Type} {f:α->Option β}:∀ {l:List α} {r:List β},l.mapM f=some r->r.length=l.length/\∀ (j:Nat) (a:α),l[j]?=some a->∃ b,f a=some b/\r[j]?=some b
 |[],r,h=>by simp at h;subst h;exact⟨rfl,λj a hj=>by simp at hj⟩
 |a::l,r,h=>by
  rw[su] at h;cases h1:f a with
  |none=>rw[h1] at h;cases h
  |some b=>
  rw[h1] at h;cases h2:l.mapM f with
  |none=>rw[h2] at h;cases h
  |some bs=>
  rw[h2] at h;injection h with h;subst h;obtain⟨k1,k2⟩:=mapM_at h2;refine⟨by simp[k1],λj a' hj=>?_⟩;cases j with
  |zero=>simp only[aD,ah] at hj;subst hj;exact⟨b,h1,rfl⟩
  |succ j=>simpa using k2 j a' (by simpa using hj)
theorem au1 {n:Nat} {ty:Ty} {cs:List Value} (hlen:cs.length=ty.size) (h2:2<=n) (hf:∀ k,k<n->∃ (t:Ty) (x:t.I),wa (JI k n) ty=some t/\K w Wr t x ((cs.drop (cA (JI k n) ty)).take t.size)/\wf t x): ∀ (m j:Nat) (u:Ty),j+m+1=n->wa (List.replicate j .snd) ty=some u->cA (List.replicate j .snd) ty+u.size=ty.size->∃ x:u.I,K w Wr u x (cs.drop (cA (List.replicate j .snd) ty))/\wf u x:=by
 have aA4:∀ k,k<n->JI k n=if k+1=n then List.replicate k .snd else List.replicate k .snd++[.fst]:=λk hk=>by
  unfold JI;have h1:Nat.beq n 1=false:=by
   cases hb:Nat.beq n 1 with
   |false=>rfl
   |true=>have:=aw hb;omega
  by_cases hkn:k+1=n
  ·rw[ay hkn,hkn,bS,h1];rfl
  have:Nat.beq (k+1) n=false:=by
   cases hb:Nat.beq (k+1) n with
   |false=>rfl
   |true=>exact absurd (aw hb) hkn
  rw[ar hkn,this];rfl
 have axa:∀ (p q:Path) (t:Ty),wa (p++q) t=(wa p t).bind (wa q):=by
  intro p;induction p with
  |nil=>intro q t;rfl
  |cons s p ih=>intro q t;cases s<;>cases t<;>first |rfl |exact ih q _
 have aqT:∀ (p q:Path) (t u:Ty),wa p t=some u->cA (p++q) t=cA p t+cA q u:=by
  intro p;induction p with
  |nil=>intro q t u h;simp only[wa,ah] at h;subst h;simp[cA]
  |cons s p ih=>
  intro q t u h;cases s<;>cases t<;>simp only[wa,reduceCtorEq] at h
  ·simp only[bD,cA];exact ih q _ u h
  simp only[bD,cA];rw[ih q _ u h];omega
 intro m;induction m with
 |zero=>intro j u hj hu rz;obtain⟨t,x,k1,k2,k3⟩:=hf j (by omega);rw[aA4 j (by omega),ay (by omega)] at k1 k2;rw[hu] at k1;injection k1 with k1;subst k1;rw[cw (by rw[aX];omega)] at k2;exact⟨x,k2,k3⟩
 |succ m ih=>
 intro j u hj hu rz;obtain⟨t,x,k1,k2,k3⟩:=hf j (by omega);rw[aA4 j (by omega),ar (by omega)] at k1 k2;rw[axa,hu,aI] at k1;cases u with
 |pair a b=>
 simp only[wa,ah] at k1;subst k1;have e1:cA (List.replicate j .snd++[.fst]) ty=cA (List.replicate j .snd) ty:=by rw[aqT _ _ _ _ hu];simp[cA]
 have hr:List.replicate (j+1) Step.snd=List.replicate j .snd++[.snd]:=rK;have e2:cA (List.replicate (j+1) .snd) ty=cA (List.replicate j .snd) ty+a.size:=by rw[hr,aqT _ _ _ _ hu];simp[cA]
 have hu2:wa (List.replicate (j+1) .snd) ty=some b:=by rw[hr,axa,hu];rfl
 simp only[Ty.size] at rz;obtain⟨y,q1,q2⟩:=ih (j+1) b (by omega) hu2 (by rw[e2];omega);rw[e1] at k2;rw[e2] at q1;refine⟨(x,y),?_,k3,q2⟩;simp only[K];refine⟨(cs.drop (cA (List.replicate j .snd) ty)).take a.size,cs.drop (cA (List.replicate j .snd) ty+a.size),?_,k2,q1⟩;rw[←dO,dS]
 |_=>simp[wa] at k1
theorem Zt {α:Type} {Q:Nat->α->Prop}:∀ (n:Nat),(∀ j,j<n->∃ x,Q j x)->∃ xs:List α,xs.length=n/\∀ j (h:j<xs.length),Q j xs[j]
 |0,_=>⟨[],rfl,λj h=>by simp at h⟩
 |n+1,h=>by
  obtain⟨xs,h1,h2⟩:=Zt n λj hj=>h j (by omega);obtain⟨x,hx⟩:=h n (by omega);refine⟨xs++[x],by simp[h1],λj hj=>?_⟩;by_cases hjn:j<xs.length
  ·rw[cI hjn];exact h2 j hjn
  have:j=n:=(by simp at hj;omega);subst this;rw[dx (by omega)];simpa using hx
theorem akM {Hh:Type} {enc:TypeId×Value->Hh} {base:Nat} {spare:Nat->Bool} {held:Bool} (hT:kh P Θ=true) (hU:aqS Θ=true):∀ (fuel:Nat) (t:Ty) {T:TypeId} {cs:List Value} {r:DataW Hh×List MemPlace},Θ.is T t=true-> DataW.trod enc P w base spare held fuel T cs=some r->∃ x:t.I,K w (λ_=>False) t x cs/\wf t x
 |0,t,T,cs,r,_,e=>by simp[DataW.trod] at e
 |fuel+1,t,T,cs,r,ht,e=>by
  obtain⟨i,hi,rH⟩:=ph ht;obtain⟨aDq,hu,Tw⟩:=kV hT hi;obtain⟨_,n1,n3⟩:=Vg hu;obtain⟨n2,n4⟩:=ah4 (aJ.1 hU i (Ly hi).1);cases t with
  |int k=>
  have hd:=Ve hu rH;rw[Tw] at hd;unfold DataW.trod at e;rw[hd] at e;split at e<;>rename_i he<;>first |(cases he;done) |skip
  all_goals first |(injection he with he;cases he;done) |skip
  ·injection he with he;injection he with he;subst he;split at e
   ·rename_i hc;obtain⟨h1,hw⟩:=hc;subst h1;exact⟨_,show [Value.int _ _]=[Value.int _ _] from rfl,hw⟩
   cases e
  cases e
  |bool=>
  have hd:=Vf hu rH;rw[Tw] at hd;unfold DataW.trod at e;rw[hd] at e;split at e<;>rename_i he<;>first |(cases he;done) |skip
  ·exact⟨_,show [Value.bool _]=[Value.bool _] from rfl,trivial⟩
  cases e
  |str=>
  have hd:=Nq hu rH;rw[Tw] at hd;unfold DataW.trod at e;rw[hd] at e;split at e<;>rename_i he<;>first |(cases he;done) |skip
  ·split at e
   ·rename_i hs;exact⟨_,show [Value.string _]=[Value.string _] from rfl,hs⟩
   cases e
  cases e
  |sl t=>
  obtain⟨hd,u2,u3⟩:=F9 hu rH;rw[Tw] at hd;obtain⟨inf,s1,s2,s3⟩:=xg hT u2;unfold DataW.trod at e;rw[hd] at e;split at e<;>rename_i he<;>first |(cases he;done) |skip
  ·exact⟨[],by simp only[K];exact⟨none,0,rfl,aM _,λh=>absurd h (zt _)⟩,by simp[wf]⟩
  ·rename_i e' ad len cap;injection he with he;injection he with he;subst he;simp only at e;split at e;case isFalse=>cases e
   rename_i hc;obtain⟨_,hlc,hcm⟩:=hc;obtain⟨els,hm,_⟩:=Option.bind_eq_some_iff.1 e;obtain⟨m1,m2⟩:=mapM_at hm;have Rw:∀ j,j<len->∃ x:t.I,(∃ row,w.cells? base (ad.add (j*t.size)) t.size=some row/\K w (λ_=>False) t x row)/\wf t x:=λj hj=>by obtain⟨b,hb,_⟩:=m2 j j (by rw[List.getElem?_range hj]);obtain⟨row,hr1,hr2⟩:=Option.bind_eq_some_iff.1 hb;rw[s3] at hr1;obtain⟨x,k1,k2⟩:=akM hT hU fuel t u2 hr2;exact⟨x,⟨row,hr1,k1⟩,k2⟩
   obtain⟨xs,x1,x2⟩:=Zt len Rw;refine⟨xs,?_,by rw[x1];omega,λx hx=>?_⟩
   ·simp only[K];refine⟨some ad,cap,by rw[x1],by rw[x1];exact hlc,λhp=>?_⟩;obtain⟨⟨aEc,r1,_⟩,_⟩:=x2 0 hp;obtain⟨cur,T1,fr,b1,b2,b3,b4⟩:=aet u3 r1;have e0:ad.add (0*t.size)=ad:=by rw[Nat.zero_mul];unfold Addr.add;rw[ay rfl]
    rw[e0] at b1 b2;have wu:∀ j (hj:j<xs.length),∃ row,K w (λ_=>False) t xs[j] row/\ad.off+j*t.size+t.size<=cur.size/\row=(cur.toList.drop (ad.off+j*t.size)).take t.size:=λj hj=>(by obtain⟨⟨row,q1,q2⟩,_⟩:=x2 j hj;obtain⟨aku,T',fr',c1,c2,c3,c4⟩:=aet u3 q1;have ea:ad.add (j*t.size)=⟨ad.block,ad.off+j*t.size,none⟩:=(by rw[b1,ah5]);rw[ea] at c2 c3 c4;simp only at c2 c3 c4;rw[b2] at c2;injection c2 with c2;injection c2 with c2;subst c2;exact⟨row,q2,c3,c4⟩);refine⟨ad.block,ad.off,cur,T1,fr,by rw[←b1],λh=>h,b2,?_,λj hj=>?_⟩
    ·obtain⟨row,_,q,_⟩:=wu (xs.length - 1) (by omega);have:(xs.length - 1)*t.size+t.size=xs.length*t.size:=(by have:xs.length=(xs.length - 1)+1:=(by omega);conv=>rhs;rw[this,bc,cH]);omega
    obtain⟨row,q1,_,q2⟩:=wu j hj;rw[←q2];exact q1
   obtain⟨j,hj,rfl⟩:=bo.1 hx;exact(x2 j hj).2
  cases e
  |pair pa pb=>
   obtain⟨fs,hd,f2,f3,_⟩:=Ii hu rH;rw[Tw] at hd;obtain⟨inf,s1,s2,s3⟩:=xg hT ht;have hfn:fs.toList.length=i.fs.length:=(by rw[←f2,aY]);have hfs:fs.size=i.fs.length:=(by rw[←hfn,bQ]);have hUi:=aJ.1 hU i (Ly hi).1;unfold DataW.trod at e;rw[hd] at e;have e':(if cs.length=P.cellsOf T then(fs.toList.mapM λf=>DataW.trod enc P w base spare held fuel f.type ((cs.drop f.offset).take (P.cellsOf f.type))).map λxs=>(DataW.agg (xs.map (·.1)),xs.flatMap (·.2)) else none)=some r:=by
    split at e<;>rename_i he<;>first |(cases he;done) |skip
    ·injection he with he;injection he with he;subst he;exact e
    first |exact e |(injection he with he;injection he with he;subst he;exact e) |cases e
   split at e';case isFalse=>cases e'
   rename_i hlen;rw[s3] at hlen;obtain⟨els,hm,_⟩:=na.1 e';obtain⟨m1,m2⟩:=mapM_at hm;have hf:∀ k,k<i.fs.length->∃ (t:Ty) (x:t.I),wa (JI k i.fs.length) (.pair pa pb)=some t/\K w (λ_=>False) t x ((cs.drop (cA (JI k i.fs.length) (.pair pa pb))).take t.size)/\wf t x:=λk hk=>by have sj:fs.toList[k]?=some (fs.toList[k]'(by omega)):=aN (by omega);obtain⟨t,t1,t2,t3,_⟩:=Ab f3 k _ sj;rw[aW,hfs,rH] at t1 t3;obtain⟨b,hb,_⟩:=m2 k _ sj;obtain⟨_,_,_,c3⟩:=xg hT t2;rw[c3,t3] at hb;obtain⟨x,k1,k2⟩:=akM hT hU fuel t t2 hb;exact⟨t,x,t1,k1,k2⟩
   rw[rH] at hUi;rcases gD i.fs.length 2 with h2 |h2
   ·match hfi:i.fs,h2 with
    |[],_=>rw[hfi] at hUi;simp at hUi
    |[T1],_=>
     rw[hfi] at hUi hf
     obtain⟨t,x,k1,k2,k3⟩:=hf 0 (by simp)
     cases pb<;>simp at hUi
     simp only[JI,List.length_singleton] at k1 k2
     simp[wa,cA] at k1 k2
     subst k1
     refine⟨(x,()),?_,k3,trivial⟩
     simp only[K]
     refine⟨cs.take pa.size,[],?_,k2,rfl⟩
     rw[b6,cw (by simp only[Ty.size] at hlen;omega)]
   obtain⟨x,k1,k2⟩:=au1 hlen h2 hf (i.fs.length - 1) 0 (.pair pa pb) (by omega) rfl (by simp[cA]);exact⟨x,by simpa[cA] using k1,k2⟩
  |ptr t=>exact absurd rH (n1 t)
  |arr n t=>exact absurd rH (n2 n t)
  |mp=>exact absurd rH n4
  |unit=>exact absurd rH n3
end Go.Pv
namespace Go.Pv
open List Int IntKind
open Go.RowKit
variable {P:Program} {w:World} {Θ:kR}
theorem aoK {Γ:Gl} {f:FuncId} {run:List Arg->(iI->aa)->aa} (hs:Sound Γ P f run) (AR:∀ g o,Γ g=some o->w.heap[g]?=some o) {args:List TV} {fe:List Value} (hr:run (args.map .tv) some=some ⟨[⟨.bool,.k,true⟩],[]⟩) (hlen:fe.length=args.length) (hv:∀ (j:Nat) (b:TV),args[j]?=some b->∃ v cs,fe[j]?=some v/\a6 b.t v cs/\b.m=.k/\K w (λ_=>False) b.t b.x cs) (ayt:∀ v w',(callFunc f fe.toArray).run P w≠ .ok (.value v) w'): Calls P f fe.toArray w λe w'=>e=.returned (.bool true)/\Below w.heap.size w w':=by
 have LD:Av (λ_:Nat=>(none:Option Nat)) (λ_=>False)=λ_=>False:=funext λg=>propext ⟨λh=>h.elim (λ⟨i,hi⟩=>(by cases hi)) id,λh=>h.elim⟩;have lT:In Γ (λ_=>False) (λ_=>undef) w (λ_=>none) (args.map .tv) fe:=by
  refine⟨by simpa using hlen,λg i hg=>(by cases hg),λg hg=>hg.elim,λg o hg=>⟨rfl,AR g o hg⟩,λj a hj=>?_⟩;rw[bO] at hj;cases hb:args[j]? with
  |none=>rw[hb] at hj;cases hj
  |some b=>rw[hb] at hj;injection hj with hj;subst hj;obtain⟨v,cs,h1,h2,h3,h4⟩:=hv j b hb;refine⟨v,h1,cs,h2,?_⟩;rw[LD,h3];exact tS _ h4
 rcases hs.1 _ _ _ w _ fe (λ_=>undef) _ hr lT with⟨_,h⟩ |⟨v,w',h,_⟩
 ·refine h.mono λe w' he=>?_;cases e with
  |returned v=>
   obtain⟨rt,h1,h2⟩:=he
   injection h1 with h1
   subst h1
   obtain⟨nF,vs,q1,q2,_,q4,_⟩:=h2.res
   obtain⟨u,cs,u1,u2,u3⟩:=q4 0 _ rfl
   match vs,q2 with
   |[u'],_=>
    simp only[aD,ah] at u1
    subst u1
    simp only[M] at u3
    have:=lQ u2 u3.2
    refine⟨by rw[q1,this];rfl,⟨h2.fr.os,h2.fr.tape,h2.fr.output,h2.fr.size,λk hk=>h2.fr.block k hk (λ⟨i,hi⟩=>by cases hi)⟩⟩
  |panicked c=>exact he.elim
  |outgrown=>exact he.elim
 exact absurd h (ayt v w')
def aeu (Θ:kR):List TypeId->List Ty->Bool
 |[],[]=>true
 |T::Ts,t::ts=>Θ.is T t&&aeu Θ Ts ts
 |_,_=>false
def wfs:(ts:List Ty)->SH ts->Prop
 |[],_=>True
 |t::r,x=>wf t x.1/\wfs r x.2
open ChangeShapes WideShapes in
theorem aqU {Hh:Type} {enc:TypeId×Value->Hh} {r:Reach} {b0 base:Nat} {spare:Nat->Bool} {held:Bool} (hT:kh P Θ=true) (hU:aqS Θ=true) {T:TypeId} {t:Ty} {v:Value} {d:DataW Hh} {ps:List MemPlace} (ht:Θ.is T t=true) (A3:Value.okWide P w r b0 T v) (hd:DataW.Trod enc P w base spare held T v d ps):∃ x:t.I,(∃ cs,a6 t v cs/\K w (λ_=>False) t x cs)/\wf t x:=by
 obtain⟨fuel,hf⟩:=hd;obtain⟨x,h1,h2⟩:=akM hT hU fuel t ht hf;refine⟨x,⟨_,?_,h1⟩,h2⟩;obtain⟨i,hi,rH⟩:=ph ht;obtain⟨aDq,hu,Tw⟩:=kV hT hi;obtain⟨_,n1,n3⟩:=Vg hu;obtain⟨n2,n4⟩:=ah4 (aJ.1 hU i (Ly hi).1);cases t with
 |int k=>have hd:=Ve hu rH;rw[Tw] at hd;obtain⟨n,rfl⟩:=okWide_int hd A3;simp[a6,isAgg,Value.cells]
 |bool=>have hd:=Vf hu rH;rw[Tw] at hd;obtain⟨n,rfl⟩:=okWide_bool hd A3;simp[a6,isAgg,Value.cells]
 |str=>have hd:=Nq hu rH;rw[Tw] at hd;obtain⟨n,rfl⟩:=okWide_string hd A3;simp[a6,isAgg,Value.cells]
 |sl t=>obtain⟨hd,_⟩:=F9 hu rH;rw[Tw] at hd;obtain⟨a,l,c,rfl⟩:=okWide_slice hd A3;simp[a6,isAgg,Value.cells]
 |pair pa pb=>obtain⟨fs,hd,_⟩:=Ii hu rH;rw[Tw] at hd;simp only[Value.okWide,hd] at A3;obtain⟨cs,rfl,_⟩:=A3;simp[a6,isAgg,Value.cells]
 |ptr t=>exact absurd rH (n1 t)
 |arr n t=>exact absurd rH (n2 n t)
 |mp=>exact absurd rH n4
 |unit=>exact absurd rH n3
theorem aev {Hh:Type} {enc:TypeId×Value->Hh} {r:Reach} {b0 base:Nat} {spare:Nat->Bool} {held:Bool} (hT:kh P Θ=true) (hU:aqS Θ=true):∀ (Ts:List TypeId) (ts:List Ty) (fe:List Value) {ds:List (DataW Hh)} {ps:List MemPlace},aeu Θ Ts ts=true-> (∀ (j:Nat) t v,Ts[j]?=some t->fe[j]?=some v->Value.okWide P w r b0 t v)->DataW.TrodAll enc P w base spare held Ts fe ds ps-> ∃ x:SH ts,wfs ts x/\fe.length=ts.length/\∀ (j:Nat) (b:TV),(D8 ts x)[j]?=some b->∃ v cs,fe[j]?=some v/\a6 b.t v cs/\b.m=.k/\K w (λ_=>False) b.t b.x cs
 |[],[],fe,ds,ps,_,_,h=>by obtain⟨rfl,_,_⟩:=ChangeShapes.trodAll_nil h;exact⟨(),trivial,rfl,λj b hj=>by simp[D8] at hj⟩
 |[],_::_,_,_,_,e,_,_=>by simp[aeu] at e
 |_::_,[],_,_,_,e,_,_=>by simp[aeu] at e
 |T::Ts,t::ts,fe,ds,ps,e,AQ,h=>by
  simp only[aeu,ai] at e;obtain⟨v,vs,d,ds',p,q,rfl,rfl,rfl,h1,h2⟩:=ChangeShapes.trodAll_cons h;obtain⟨x,⟨cs,m1,m2⟩,m3⟩:=aqU hT hU e.1 (AQ 0 T v rfl rfl) h1;obtain⟨y,k1,k2,k3⟩:=aev hT hU Ts ts vs e.2 (λj t v hj hv=>AQ (j+1) t v (by simpa using hj) (by simpa using hv)) h2;refine⟨(x,y),⟨m3,k1⟩,by simp[k2],λj b hj=>?_⟩;cases j with
  |zero=>simp only[D8,aD,ah] at hj;subst hj;exact⟨v,cs,rfl,m1,rfl,m2⟩
  |succ j=>obtain⟨v',kS,q1,q2⟩:=k3 j b (by simpa[D8] using hj);exact⟨v',kS,by simpa using q1,q2⟩
theorem abx {Hh:Type} {enc:TypeId×Value->Hh} {W W':World} (hl:laidOutB P=true) (hb:Below W.heap.size W W'):∀ (Ts:List TypeId) (fe:List Value) {ds:List (DataW Hh)} {ps:List MemPlace},(Ts.all λT=>P.readableRec T&&decide (T<P.types.size))=true-> DataW.TrodAll enc P W 0 (λ_=>true) true Ts fe ds ps->DataW.TrodAll enc P W' 0 (λb=>decide (b<W.heap.size)) true Ts fe ds ps
 |[],fe,ds,ps,_,h=>by obtain⟨rfl,rfl,rfl⟩:=ChangeShapes.trodAll_nil h;exact rfl
 |T::Ts,fe,ds,ps,hr,h=>by
  simp only[lO,ai,au] at hr;obtain⟨v,vs,d,ds',p,q,rfl,rfl,rfl,h1,h2⟩:=ChangeShapes.trodAll_cons h;have lt:∀ x∈p,x.block<W.heap.size:=by obtain⟨m,hm⟩:=h1;exact DataW.trod_lt m _ _ _ hm
  exact⟨p,q,Below.trod hl hr.1.1 hr.1.2 h1 hb lt,abx hl hb Ts vs hr.2 h2,rfl⟩
theorem enters {f : FuncId} {fn : Func} {body : Code} (hf : P.funcs[f]? = some fn) (hb : fn.body = some body) (hnm : (fn.name == "runtime.NumGoroutine") = false) (fe : Array Value) : ∀ v w', (callFunc f fe).run P w ≠ .ok (.value v) w' := by
 intro v w' h
 have ayq : ¬ fn.name = "runtime.NumGoroutine" := by simpa using hnm
 simp[callFunc,hf,ayq,hb] at h
theorem aqV {Γ:Gl} {Hh:Type} {enc:TypeId×Value->Hh} {r:Reach} {b0:Nat} {f:FuncId} {run:Nat->List Arg->(iI->aa)->aa} (hs:∀ N,Sound Γ P f (run N)) (AR:∀ g o,Γ g=some o->w.heap[g]?=some o) (hT:kh P Θ=true) (hU:aqS Θ=true) (hl:laidOutB P=true) {Ts:List TypeId} {ts:List Ty} (hts:aeu Θ Ts ts=true) (aA5:(Ts.all λT=>P.readableRec T&&decide (T<P.types.size))=true) (aA6:∀ x:SH ts,wfs ts x->∃ N,run N ((D8 ts x).map .tv) some=some ⟨[⟨.bool,.k,true⟩],[]⟩) {args:Array Value} {ds:List (DataW Hh)} {ps:List MemPlace} (AQ:∀ (j:Nat) t v,Ts[j]?=some t->args[j]?=some v->Value.okWide P w r b0 t v) (h:DataW.TrodAll enc P w 0 (λ_=>true) true Ts args.toList ds ps) (ayt:∀ v w',(callFunc f args).run P w≠ .ok (.value v) w'): Calls P f args w λe w'=>e=.returned (.bool true)/\Below w.heap.size w w'/\DataW.TrodAll enc P w' 0 (λb=>decide (b<w.heap.size)) true Ts args.toList ds ps:=by
 obtain⟨x,h1,h2,h3⟩:=aev hT hU Ts ts args.toList hts (λj t v hj hv=>AQ j t v hj (by simpa using hv)) h;obtain⟨N,hN⟩:=aA6 x h1;have hlen:∀ (ts:List Ty) (x:SH ts),(D8 ts x).length=ts.length:=by
  intro ts;induction ts with
  |nil=>intro _;rfl
  |cons t ts ih=>intro x;simp[D8,ih]
 have:=aoK (hs N) AR (fe:=args.toList) hN (by rw[h2,hlen]) h3 (by simpa using ayt);have he:args.toList.toArray=args:=by simp
 rw[he] at this;exact this.mono λe w' ⟨k1,k2⟩=>⟨k1,k2,abx hl k2 Ts _ aA5 h⟩
end Go.Pv
namespace Go.Pv
open List Int IntKind
theorem wrap64 {n:Int} (h1: -9223372036854775808<=n) (h2:n<9223372036854775808):wrap .i64 n=n:=by simp[wrap,IntKind.bits,IntKind.signed];split<;>omega
theorem sM {i m:Nat} (h:i<m) (hm:m<=maxLen):wrap .i64 ((i:Int)+1)=((i+1:Nat):Int):=by
 have:maxLen=9223372036854775807:=by decide
 rw[wrap64]<;>omega
theorem aL {i m:Nat} (h:i<m):bp (i:Int) m=true:=by simp[bp,h]
theorem aO {α:Type} (l:List α) (i:Nat) (h:i<l.length) (z:α):l.getD i z=l[i]:=by simp[aG,h]
def EO {α:Type} (body:Nat->α->aa->aa) (dX:aa):List α->Nat->aa
 |[],_=>dX
 |x::r,i=>body i x (EO body dX r (i+1))
def dU {α σ:Type} (body:Nat->α->σ->(σ->aa)->aa) (dX:σ->aa):List α->Nat->σ->aa
 |[],_,s=>dX s
 |x::r,i,s=>body i x s (λs'=>dU body dX r (i+1) s')
theorem aqW {α:Type} {f:Nat->Int->aa} {l:List α} {body:Nat->α->aa->aa} {dX:aa} (hr:∀ (n i:Nat) (h:i<l.length),f (n+1) (i:Int)=body i l[i] (f n (wrap .i64 ((i:Int)+1)))) (he:∀ (n:Nat),f (n+1) (l.length:Int)=dX) (hl:l.length<=maxLen): ∀ (r:List α) (i N:Nat),l.drop i=r->i<=l.length->r.length<N->f N (i:Int)=EO body dX r i
 |[],i,N,hd,hi,hN=>by have:i=l.length:=(by have:=br length hd;simp at this;omega);subst this;obtain⟨N,rfl⟩:∃ m,N=m+1:=⟨N - 1,by simp at hN;omega⟩;exact he N
 |x::r,i,N,hd,hi,hN=>by have gC:i<l.length:=(by have:=br length hd;simp at this;omega);rw[aT gC] at hd;injection hd with h1 h2;obtain⟨N,rfl⟩:∃ m,N=m+1:=⟨N - 1,by simp at hN;omega⟩;rw[hr N i gC,h1,sM gC hl,aqW hr he hl r (i+1) N h2 gC (by simpa using hN)];rfl
theorem aqX {α σ:Type} {f:Nat->σ->Int->aa} {l:List α} {body:Nat->α->σ->(σ->aa)->aa} {dX:σ->aa} (hr:∀ (n i:Nat) (s:σ) (h:i<l.length),f (n+1) s (i:Int)=body i l[i] s (λs'=>f n s' (wrap .i64 ((i:Int)+1)))) (he:∀ (n:Nat) (s:σ),f (n+1) s (l.length:Int)=dX s) (hl:l.length<=maxLen): ∀ (r:List α) (i N:Nat) (s:σ),l.drop i=r->i<=l.length->r.length<N->f N s (i:Int)=dU body dX r i s
 |[],i,N,s,hd,hi,hN=>by have:i=l.length:=(by have:=br length hd;simp at this;omega);subst this;obtain⟨N,rfl⟩:∃ m,N=m+1:=⟨N - 1,by simp at hN;omega⟩;exact he N s
 |x::r,i,N,s,hd,hi,hN=>by have gC:i<l.length:=(by have:=br length hd;simp at this;omega);rw[aT gC] at hd;injection hd with h1 h2;obtain⟨N,rfl⟩:∃ m,N=m+1:=⟨N - 1,by simp at hN;omega⟩;rw[hr N i s gC,h1,sM gC hl];have:(λs'=>f N s' ((i+1:Nat):Int))=λs'=>dU body dX r (i+1) s':=funext λs'=>aqX hr he hl r (i+1) N s' h2 gC (by simpa using hN);rw[this];rfl
def Yc {α LQ eo:Type} (body:Nat->α->LQ->eo->(LQ->eo->aa)->aa) (dX:LQ->eo->aa):List α->Nat->LQ->eo->aa
 |[],_,s0,s1=>dX s0 s1
 |x::r,i,s0,s1=>body i x s0 s1 (λs0' s1'=>Yc body dX r (i+1) s0' s1')
theorem aqY {α LQ eo:Type} {f:Nat->LQ->eo->Int->aa} {l:List α} {body:Nat->α->LQ->eo->(LQ->eo->aa)->aa} {dX:LQ->eo->aa} (hr:∀ (n i:Nat) (s0:LQ) (s1:eo) (h:i<l.length),f (n+1) s0 s1 (i:Int)=body i l[i] s0 s1 (λs0' s1'=>f n s0' s1' (wrap .i64 ((i:Int)+1)))) (he:∀ (n:Nat) (s0:LQ) (s1:eo),f (n+1) s0 s1 (l.length:Int)=dX s0 s1) (hl:l.length<=maxLen): ∀ (r:List α) (i N:Nat) (s0:LQ) (s1:eo),l.drop i=r->i<=l.length->r.length<N->f N s0 s1 (i:Int)=Yc body dX r i s0 s1
 |[],i,N,s0,s1,hd,hi,hN=>by have:i=l.length:=(by have:=br length hd;simp at this;omega);subst this;obtain⟨N,rfl⟩:∃ m,N=m+1:=⟨N - 1,by simp at hN;omega⟩;exact he N s0 s1
 |x::r,i,N,s0,s1,hd,hi,hN=>by have gC:i<l.length:=(by have:=br length hd;simp at this;omega);rw[aT gC] at hd;injection hd with h1 h2;obtain⟨N,rfl⟩:∃ m,N=m+1:=⟨N - 1,by simp at hN;omega⟩;rw[hr N i s0 s1 gC,h1,sM gC hl];have:(λs0' s1'=>f N s0' s1' ((i+1:Nat):Int))=λs0' s1'=>Yc body dX r (i+1) s0' s1':=(by funext s0' s1';exact aqY hr he hl r (i+1) N s0' s1' h2 gC (by simpa using hN));rw[this];rfl
def ah6 {α LQ eo lU:Type} (body:Nat->α->LQ->eo->lU->(LQ->eo->lU->aa)->aa) (dX:LQ->eo->lU->aa):List α->Nat->LQ->eo->lU->aa
 |[],_,s0,s1,s2=>dX s0 s1 s2
 |x::r,i,s0,s1,s2=>body i x s0 s1 s2 (λs0' s1' s2'=>ah6 body dX r (i+1) s0' s1' s2')
theorem aqZ {α LQ eo lU:Type} {f:Nat->LQ->eo->lU->Int->aa} {l:List α} {body:Nat->α->LQ->eo->lU->(LQ->eo->lU->aa)->aa} {dX:LQ->eo->lU->aa} (hr:∀ (n i:Nat) (s0:LQ) (s1:eo) (s2:lU) (h:i<l.length),f (n+1) s0 s1 s2 (i:Int)=body i l[i] s0 s1 s2 (λs0' s1' s2'=>f n s0' s1' s2' (wrap .i64 ((i:Int)+1)))) (he:∀ (n:Nat) (s0:LQ) (s1:eo) (s2:lU),f (n+1) s0 s1 s2 (l.length:Int)=dX s0 s1 s2) (hl:l.length<=maxLen): ∀ (r:List α) (i N:Nat) (s0:LQ) (s1:eo) (s2:lU),l.drop i=r->i<=l.length->r.length<N->f N s0 s1 s2 (i:Int)=ah6 body dX r i s0 s1 s2
 |[],i,N,s0,s1,s2,hd,hi,hN=>by have:i=l.length:=(by have:=br length hd;simp at this;omega);subst this;obtain⟨N,rfl⟩:∃ m,N=m+1:=⟨N - 1,by simp at hN;omega⟩;exact he N s0 s1 s2
 |x::r,i,N,s0,s1,s2,hd,hi,hN=>by have gC:i<l.length:=(by have:=br length hd;simp at this;omega);rw[aT gC] at hd;injection hd with h1 h2;obtain⟨N,rfl⟩:∃ m,N=m+1:=⟨N - 1,by simp at hN;omega⟩;rw[hr N i s0 s1 s2 gC,h1,sM gC hl];have:(λs0' s1' s2'=>f N s0' s1' s2' ((i+1:Nat):Int))=λs0' s1' s2'=>ah6 body dX r (i+1) s0' s1' s2':=(by funext s0' s1' s2';exact aqZ hr he hl r (i+1) N s0' s1' s2' h2 gC (by simpa using hN));rw[this];rfl
end Go.Pv
namespace Go.Pv
open List Int IntKind
theorem fB {i m:Nat} (h:i<m):decide ((i:Int)<(m:Int))=true:=af (by omega)
theorem fC {m:Nat}:decide ((m:Int)<(m:Int))=false:=an (by omega)
theorem wc {α:Type} {f:Nat->Int->aa} {l:List α} {body:Nat->α->aa->aa} {dX:aa} (hr:∀ (n i:Nat) (h:i<l.length),f (n+1) (i:Int)=body i l[i] (f n (wrap .i64 ((i:Int)+1)))) (he:∀ (n:Nat),f (n+1) (l.length:Int)=dX) (hl:l.length<=maxLen) {n:Nat} (hn:l.length<n):f n 0=EO body dX l 0:=aqW hr he hl l 0 n rfl (fL _) hn
theorem rP {α σ:Type} {f:Nat->σ->Int->aa} {l:List α} {body:Nat->α->σ->(σ->aa)->aa} {dX:σ->aa} (hr:∀ (n i:Nat) (s:σ) (h:i<l.length),f (n+1) s (i:Int)=body i l[i] s (λs'=>f n s' (wrap .i64 ((i:Int)+1)))) (he:∀ (n:Nat) (s:σ),f (n+1) s (l.length:Int)=dX s) (hl:l.length<=maxLen) {n:Nat} (hn:l.length<n) (s0:σ):f n s0 0=dU body dX l 0 s0:=aqX hr he hl l 0 n s0 rfl (fL _) hn
theorem ayu {α LQ eo:Type} {f:Nat->LQ->eo->Int->aa} {l:List α} {body:Nat->α->LQ->eo->(LQ->eo->aa)->aa} {dX:LQ->eo->aa} (hr:∀ (n i:Nat) (s0:LQ) (s1:eo) (h:i<l.length),f (n+1) s0 s1 (i:Int)=body i l[i] s0 s1 (λs0' s1'=>f n s0' s1' (wrap .i64 ((i:Int)+1)))) (he:∀ (n:Nat) (s0:LQ) (s1:eo),f (n+1) s0 s1 (l.length:Int)=dX s0 s1) (hl:l.length<=maxLen) {n:Nat} (hn:l.length<n) (s0:LQ) (s1:eo):f n s0 s1 0=Yc body dX l 0 s0 s1:=aqY hr he hl l 0 n s0 s1 rfl (fL _) hn
theorem aA7 {α LQ eo lU:Type} {f:Nat->LQ->eo->lU->Int->aa} {l:List α} {body:Nat->α->LQ->eo->lU->(LQ->eo->lU->aa)->aa} {dX:LQ->eo->lU->aa} (hr:∀ (n i:Nat) (s0:LQ) (s1:eo) (s2:lU) (h:i<l.length),f (n+1) s0 s1 s2 (i:Int)=body i l[i] s0 s1 s2 (λs0' s1' s2'=>f n s0' s1' s2' (wrap .i64 ((i:Int)+1)))) (he:∀ (n:Nat) (s0:LQ) (s1:eo) (s2:lU),f (n+1) s0 s1 s2 (l.length:Int)=dX s0 s1 s2) (hl:l.length<=maxLen) {n:Nat} (hn:l.length<n) (s0:LQ) (s1:eo) (s2:lU):f n s0 s1 s2 0=ah6 body dX l 0 s0 s1 s2:=aqZ hr he hl l 0 n s0 s1 s2 rfl (fL _) hn
end Go.Pv
namespace Go.Pv
open List Int IntKind
theorem aq0 {α:Type} {body:Nat->α->aa->aa} {dX:aa} {l:List α} (hb:∀ (i:Nat) (x:α) (next:aa) (h:i<l.length),l[i]=x->body i x next=next):∀ (r:List α) (i:Nat),l.drop i=r->EO body dX r i=dX
 |[],_,_=>rfl
 |x::r,i,hd=>by have gC:i<l.length:=(by have:=br length hd;simp at this;omega);rw[aT gC] at hd;injection hd with h1 h2;simp only[EO];rw[hb i x _ gC h1];exact aq0 hb r (i+1) h2
theorem aU:maxLen=9223372036854775807:=by decide
end Go.Pv
namespace Go.Pv
open List Int IntKind
end Go.Pv
namespace Go.Pv
open List Int IntKind
def aDr {σ:Type} (F G:(σ->aa)->aa):Prop:=∃ v,(∀ kf,F kf=kf v)/\∀ kf,G kf=kf v
def allI {α:Type} (p:Nat->α->Bool):List α->Nat->Bool
 |[],_=>true
 |x::r,i=>p i x&&allI p r (i+1)
theorem nN {α:Type} {p:Nat->α->Bool}:∀ {l:List α} {i:Nat},allI p l i=true↔∀ (j:Nat) (h:j<l.length),p (i+j) l[j]=true
 |[],i=>by simp[allI]
 |x::r,i=>by
  simp only[allI,ai,nN (l:=r)];constructor
  ·intro ⟨h1,h2⟩ j hj;cases j with
   |zero=>exact h1
   |succ j=>have:=h2 j (by simpa using hj);rw[show i+(j+1)=i+1+j by omega];exact this
  intro h;refine⟨h 0 (by simp),λj hj=>?_⟩;have:=h (j+1) (by simpa using hj);rw[show i+1+j=i+(j+1) by omega];exact this
theorem ob {α:Type} {body:Nat->α->aa->aa} {dX kf:aa} {p:Nat->α->Bool} {l:List α} (hb:∀ (i:Nat) (x:α) (next:aa) (h:i<l.length),l[i]=x->body i x next=bif p i x then next else kf): ∀ (r:List α) (i:Nat),l.drop i=r->EO body dX r i=bif allI p r i then dX else kf
 |[],_,_=>rfl
 |x::r,i,hd=>by have gC:i<l.length:=(by have:=br length hd;simp at this;omega);rw[aT gC] at hd;injection hd with h1 h2;simp only[EO,allI];rw[hb i x _ gC h1,ob hb r (i+1) h2];cases p i x<;>simp
theorem aew {α σ:Type} {body:Nat->α->σ->(σ->aa)->aa} {dX:σ->aa} {g:Nat->α->σ->σ} {l:List α} (hb:∀ (i:Nat) (x:α) (s:σ) (next:σ->aa) (h:i<l.length),l[i]=x->body i x s next=next (g i x s)): ∀ (r:List α) (i:Nat) (s:σ),l.drop i=r->dU body dX r i s=dU (λi x s next=>next (g i x s)) dX r i s
 |[],_,_,_=>rfl
 |x::r,i,s,hd=>by have gC:i<l.length:=(by have:=br length hd;simp at this;omega);rw[aT gC] at hd;injection hd with h1 h2;simp only[dU];rw[hb i x s _ gC h1,aew hb r (i+1) _ h2]
def foldI {α σ:Type} (g:Nat->α->σ->σ):List α->Nat->σ->σ
 |[],_,s=>s
 |x::r,i,s=>foldI g r (i+1) (g i x s)
theorem aby {α σ:Type} {g:Nat->α->σ->σ} {dX:σ->aa}:∀ (r:List α) (i:Nat) (s:σ),dU (λi x s next=>next (g i x s)) dX r i s=dX (foldI g r i s)
 |[],_,_=>rfl
 |x::r,i,s=>by simp only[dU,foldI];exact aby r (i+1) _
theorem PJ {α σ:Type} {body:Nat->α->σ->(σ->aa)->aa} {dX:σ->aa} (g:Nat->α->σ->σ) {l:List α} {s:σ} (hb:∀ (i:Nat) (x:α) (s:σ) (next:σ->aa) (h:i<l.length),l[i]=x->body i x s next=next (g i x s)):
  dU body dX l 0 s=dX (foldI g l 0 s):=by rw[aew hb l 0 s rfl,aby]
def x9 {α:Type} (p:α->Bool):List α->Nat->Option Nat
 |[],_=>none
 |x::r,i=>bif p x then some i else x9 p r (i+1)
def pk (a b c:Int):Bool:=decide (b<=a)&&decide (a<=c)
end Go.Pv
namespace Go.Pv
open List Int IntKind
end Go.Pv
