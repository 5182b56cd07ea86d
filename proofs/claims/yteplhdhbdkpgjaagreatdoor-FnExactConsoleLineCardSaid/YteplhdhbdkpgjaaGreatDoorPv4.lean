/- A verified evaluator of the program's form over pure values, part 4: what it tells of a function holds. -/
import Derived.Test.YteplhdhbdkpgjaaGreatDoorPv3
import Derived.Below
import Derived.Carry
import Derived.ChangeMaps5
import Derived.Lib.Bytealg
import Derived.Lib.IndexBytes
import Derived.Lib.IndexMore
import Derived.Lib.ItoaNum
import Derived.Lib.Join
import Derived.Lib.Split
import Derived.Lib.SplitLaws
import Derived.OrdersHeld
import GoSem.ClaimChange
set_option linter.unusedSimpArgs false
set_option linter.unusedVariables false
set_option autoImplicit true
set_option relaxedAutoImplicit true
namespace Go.Pv
open List Int IntKind
abbrev qJ:= @Array.getElem?_eq_none
abbrev aj:= @Int.toNat_natCast
abbrev fk:= @List.pairwise_append
abbrev jB:= @List.set_append_right
abbrev iQ:= @List.singleton_append
abbrev kT:= @List.take_succ_eq_append_getElem
abbrev k9:= @Nat.eq_of_testBit_eq
abbrev ze:= @Nat.left_le_or
abbrev oh:= @Nat.or_assoc
abbrev sZ:= @Nat.pow_le_pow_right
abbrev dR:= @Nat.testBit_and
abbrev bp:= @Nat.testBit_or
abbrev gB:= @Nat.testBit_two_pow_sub_one
abbrev nP:= @Nat.testBit_xor
abbrev fY:= @Nat.zero_le
abbrev vm:= @Nat.zero_testBit
abbrev nQ:= @Go.Oper.upon_value
abbrev qK:= @Go.Region.noSelect_spec
abbrev iq:= @decide_eq_decide
abbrev af:= @decide_eq_true
abbrev zf:= @decide_false
abbrev wZ:= @Go.getD_set_ne
abbrev kG:= @Go.mem_ready
abbrev pV:= @Go.ready_mono
abbrev mK:= @Go.wpOp_mono
variable {Γ:Gl} {P:Program} {w w':World} {A A' Wr:Nat->Prop} {H:Nat->Value} {tm Nj:Nat->Value} {S S' S1:St} {σ eK lR:Nat->Option Nat} {w0:World} {W0 Z:Nat->Prop} {a:Act} {own:Nat->Prop} {v:Value} {Θ:nh} {dst:Option Nat} {O:vi} {hh:Hint} {Q:Exit->Act->World->Prop} {K:St->aa} {ret:jD}
def ad6 (w0:World) (W0 Z:Nat->Prop) (H:Nat->Value) (K:St->aa) (ret:jD) (a:Act) (w:World):Prop:=∃ S,K S=some ret/\Rel w0 W0 Z H S a w
theorem agh {o:Oper} {c:Call} {f:FuncId} {XC:List Value} (ho:o.op=.call c) (hc:∃ x,c.callee=.value x/\a.eval x=.func (.func f) #[] XC.toArray) {R:Value->World->Prop} (hd:air P f (c.args.toList.map a.eval++XC) w R) {N:Act->World->Prop} (hN:∀ v w',R v w'->N (a.put o.dst v) w'):o.wp P a w N Q:=by
 obtain⟨x,hx,hv⟩:=hc;have iD:(execOp a.eval o).run P w=(callFunc f (c.args.toList.map a.eval++XC).toArray).run P w:=by simp only[execOp,ho,resolve,hx,Deferred.ofValue,hv,a6,dk,aX,invoke];congr 2;apply il.1;simp
 unfold Oper.wp;rw[iD];rcases hd with⟨h1,h2⟩ |⟨v,w',h1,h2⟩
 ·rw[h1,Oper.upon_enter];refine h2.mono λe w' he=>?_;cases e with
  |returned v=>exact hN _ _ he
  |panicked c=>exact he.elim
  |outgrown=>exact he.elim
 rw[h1,nQ];exact hN _ _ h2
theorem aeU (hc:c.callee=.value (.func f)) (h:ZF O (.call c)=true):∀ p∈O.sig f,p=.val:=by obtain⟨callee,args,ats⟩:=c;simp only at hc;subst hc;simp only[ZF,aO] at h;intro p hp;have:=h p hp;cases p<;>first |rfl |cases this
theorem alf (h:quiet op=true):aip op=true:=by unfold aip;split<;>first |rfl |exact h
theorem abA:∀ (l:List Pass) (n:Nat) {j:Nat},R5 l n=some j->¬ ∀ p∈l,p=.val
 |[],n,j,h,_=>by cases h
 | .Gq::r,n,j,h,hv=>by have:=hv .Gq (by simp);cases this
 | .val::r,n,j,h,hv=>abA r (n+1) (by simpa[R5] using h) (λp hp=>hv p (by simp[hp]))
 | .take::r,n,j,h,hv=>by have:=hv .take (by simp);cases this
theorem aq9 (hT:ke P hh.tab=true) (h:dp σ w0 W0 Z H S a w) (e:am8 hh dst T eq x S K=some ret): (∃ A n c,a.eval x=.slice A n c)/\∃ q,(binOp (bif eq then .eql else .neq) T (a.eval x) (.slice none 0 0)).run P w=.ok (.bool q) w/\∃ S',K S'=some ret/\Rel w0 W0 Z H S' (a.put dst (.bool q)) w:=by
 unfold am8 at e;split at e;case h_2=>cases e
 rename_i t m xs hx;cases Sc:hh.tab.is T (.sl t) with
 |false=>rw[Sc] at e;cases e
 |true=>rw[Sc] at e;simp only[ab] at e;obtain⟨cs,h1,h2,_⟩:=qw h hx;simp only[Go.Pv.K] at h2;obtain⟨A,c,rfl,hc,ZH⟩:=h2;have hv:a.eval x=.slice A (length xs) c:=(by simpa[a7,isAgg] using h1.symm);obtain⟨i,hi,rS⟩:=pC Sc;obtain⟨_,hu,hTT⟩:=kP hT hi;obtain⟨u1,_,_⟩:=Gs hu rS;rw[hTT] at u1;have mI:∀ d,(Op.equalIn (d+1) T (.slice A (length xs) c) (.slice none 0 0)).run P w=.ok A.isNone w:=λd=>(by simp only[Op.equalIn,a6,bc u1,aX];cases A<;>simp);have iD:(Op.equal T (a.eval x) (.slice none 0 0)).run P w=.ok A.isNone w:=(by rw[hv];exact mI 9999);have hq:(binOp (bif eq then .eql else .neq) T (a.eval x) (.slice none 0 0)).run P w=.ok (.bool (bif eq then A.isNone else !A.isNone)) w:=(by cases eq<;>simp[binOp,iD]);refine⟨⟨A,_,c,hv⟩,_,hq,?_⟩;have put:∀ q:Bool,Rel w0 W0 Z H (S.put dst (.v ⟨.bool,.k,q⟩ [])) (a.put dst (.bool q)) w:=λq=>⟨_,h.pure (kQ q)⟩;cases ayP:List.isEmpty xs with
 |true=>
  rw[ayP] at e;simp only[ab] at e;obtain⟨e1,e2⟩:=aoG e;cases hb:(bif eq then A.isNone else !A.isNone) with
  |true=>exact⟨_,e1,put true⟩
  |false=>exact⟨_,e2,put false⟩
 |false=>
 rw[ayP] at e;simp only[ae] at e;have hp:0<length xs:=by
  cases xs with
  |nil=>simp at ayP
  |cons _ _=>simp
 obtain⟨g,off,cur,T',fr,rfl,_⟩:=ZH hp;cases eq with
 |true=>exact⟨_,e,put false⟩
 |false=>exact⟨_,e,put true⟩
theorem aBo (hT:ke P hh.tab=true) (hO:LD Γ P O w0 W0) (h:dp σ w0 W0 Z H S a w) (e:wV hh O o S K=some ret): o.wp P a w (λa' w'=>ad6 w0 W0 Z H K ret a' w'/\(ZF O o.op=true->Ext w w')) Q:=by
 unfold wV at e;split at e
 ·rename_i f as ts ho;split at e
  ·rename_i j hj;have hd:=avk hT hO h e;rw[←b6 (as.toList.map a.eval)] at hd;refine agh ho (XC:=[]) ⟨_,rfl,by simp[Act.eval]⟩ hd ?_;intro v w' ⟨S',h1,h2⟩;exact⟨⟨S',h1,h2⟩,λhx=>absurd (aeU rfl (by rw[ho] at hx;exact hx)) (abA _ _ hj)⟩
  refine agh ho (XC:=[]) ⟨_,rfl,by simp[Act.eval]⟩ (anv hT hO h (.inl ⟨rfl,rfl⟩) e) ?_;intro v w' ⟨S',h1,h2,h3⟩;exact⟨⟨S',h1,h2⟩,λhx=>h3 (aeU rfl (by rw[ho] at hx;exact hx))⟩
 ·rename_i i as ts ho;split at e;case h_2=>cases e
  rename_i f kE nM;have hold:=h.holds i;rw[nM] at hold;obtain⟨vs,v1,v2,v3⟩:=hold;refine agh ho (XC:=vs) ⟨_,rfl,v1⟩ (anv hT hO h (.inr ⟨i,rfl,v1⟩) e) ?_;intro v w' ⟨S',h1,h2,h3⟩;refine⟨⟨S',h1,h2⟩,λhx=>?_⟩;rw[ho] at hx;cases hx
 ·rename_i T x T' ho;obtain⟨⟨A,n,c,hv⟩,q,hq,S',hS,hR⟩:=aq9 hT h (eq:=true) e;unfold Oper.wp;have hr:(execOp a.eval o).run P w=.ok (.value (.bool q)) w:=by have NQ:(binOp .eql T (a.eval x) (a.eval (.const (.slice none 0 0)))).run P w=.ok (.bool q) w:=hq;have hg:(eqGuard .eql T x (.const (.slice none 0 0)) (a.eval x) (a.eval (.const (.slice none 0 0)))).run P w=.ok () w:=(by rw[hv];simp[eqGuard,Act.eval]);simp only[execOp,ho,a6];rw[hg];simp only[aX];rw[NQ];rfl
  rw[hr,nQ];exact⟨⟨S',hS,hR⟩,λ_=>Ext.refl w⟩
 ·rename_i T x T' ho;obtain⟨⟨A,n,c,hv⟩,q,hq,S',hS,hR⟩:=aq9 hT h (eq:=false) e;unfold Oper.wp;have hr:(execOp a.eval o).run P w=.ok (.value (.bool q)) w:=by have NQ:(binOp .neq T (a.eval x) (a.eval (.const (.slice none 0 0)))).run P w=.ok (.bool q) w:=hq;have hg:(eqGuard .neq T x (.const (.slice none 0 0)) (a.eval x) (a.eval (.const (.slice none 0 0)))).run P w=.ok () w:=(by rw[hv];simp[eqGuard,Act.eval]);simp only[execOp,ho,a6];rw[hg];simp only[aX];rw[NQ];rfl
  rw[hr,nQ];exact⟨⟨S',hS,hR⟩,λ_=>Ext.refl w⟩
 rename_i n1 n2 n3 n4;split at e;case h_2=>cases e
 rename_i g S1 hev;cases g with
 |false=>cases e
 |true=>
 simp only[ab] at e;by_cases aBp:aip o.op=true
 ·obtain⟨w',v,r1,r2,r3⟩:=aq0 hT h aBp hev;unfold Oper.wp;rw[r1,nQ];exact⟨⟨S1,e,r3⟩,λ_=>r2⟩
 obtain⟨w',v,r1,r3⟩:=aBm hT h hev;have hna: ¬ZF O o.op=true:=λhx=>by apply aBp;revert hx n1;generalize o.op=op;intro n1 hx;unfold ZF at hx;split at hx<;>first |rfl |(exact absurd rfl (n1 _ _ _)) |exact alf hx
 unfold Oper.wp;rcases r1 with r1 |⟨rfl,r1⟩
 ·rw[r1,nQ];exact⟨⟨S1,e,r3⟩,λhx=>absurd hx hna⟩
 rw[r1,Oper.upon_skip];exact⟨⟨S1,e,r3⟩,λhx=>absurd hx hna⟩
end Go.Pv
namespace Go.Pv
open List Int IntKind
variable {Γ:Gl} {P:Program} {w w':World} {A A' Wr:Nat->Prop} {H:Nat->Value} {tm Nj:Nat->Value} {S S' S1:St} {σ eK lR:Nat->Option Nat} {w0:World} {W0 Z:Nat->Prop} {a:Act} {own:Nat->Prop} {v:Value} {Θ:nh} {dst:Option Nat} {O:vi} {hh:Hint} {Q:Exit->Act->World->Prop} {ret:jD} {ops:Array Oper}
theorem dp.less (h:dp σ w0 W0 Z H S a w) (hl:S'.length=S.length) (hs:∀ i,S'.at i=.dead∨(S'.at i=S.at i/\∀ s,(S.at i).refs s=true->S'.at s=S.at s)):dp σ w0 W0 Z H S' a w:=by
 refine⟨by rw[hl];exact h.len,h.defers,h.fr,h.new,h.lt,h.old,λi=>?_⟩;rcases hs i with hi |⟨hi,hr⟩
 ·rw[hi];trivial
 rw[hi];exact(h.holds i).kept (cR.refl _ _) (λg hg _=>⟨rfl,hg⟩) (λs hs=>⟨λr ex he=>by rw[hr s hs];exact he,rfl,_,h.holds s,λ_ _ _=>rfl⟩)
theorem apc (h:Rel w0 W0 Z H S a w):Rel w0 W0 Z H (aeq S) a w:=by
 obtain⟨σ,h⟩:=h;have nM:∀ i,(aeq S).at i=match S.at i with
  | .al t s []=>.al t s []
  | .al ..=>.dead
  | .ad ..=>.dead
  | .cut ..=>.dead
  |a=>a:=λi=>aa5 S _ rfl i
 have hv:∀ s r ex,S.at s=.v r ex->(aeq S).at s=.v r ex:=λs r ex he=>by rw[nM s,he]
 refine⟨σ,⟨by unfold aeq;rw[bh];exact h.len,h.defers,h.fr,h.new,h.lt,h.old,λi=>?_⟩⟩;have hi:=(h.holds i).kept (S':=aeq S) (cR.refl w (Av σ Z)) (λg hg _=>⟨rfl,hg⟩) (λs _=>⟨λr ex he=>hv s r ex he,rfl,_,h.holds s,λ_ _ _=>rfl⟩);rw[nM i];split<;>first |trivial |(rename_i he;rw[he] at hi;exact hi) |exact hi
theorem Zc (ks:List Nat):∀ (S:St) (i:Nat),(PL ks i S).length=S.length
 |[],_=>rfl
 |_::r,i=>by simp only[PL,an,Zc ks r]
theorem Si (ks:List Nat):∀ (S:St) (i j:Nat),(PL ks i S).at j=S.at j∨((PL ks i S).at j=.dead/\(S.at j).TK=false)
 |[],_,_=>.inl rfl
 |a::r,i,0=>by
  show(bif R6 ks i then a else _)=a∨((bif R6 ks i then a else _)=AV.dead/\a.TK=false);cases R6 ks i with
  |true=>exact .inl rfl
  |false=>simp only[ae];split<;>first |exact .inl rfl |exact .inr ⟨rfl,rfl⟩
 |a::r,i,j+1=>Si ks r (i+1) j
theorem alg (ks:List Nat) (h:Rel w0 W0 Z H S a w):Rel w0 W0 Z H (aaZ ks S) a w:=by
 cases ks with
 |nil=>exact apc h
 |cons k ks=>
 obtain⟨σ,h⟩:=h;refine⟨σ,h.less (Zc _ S 0) λi=>?_⟩;rcases Si (k::ks) S 0 i with hi |⟨hi,_⟩
 ·refine .inr ⟨hi,λs hs=>?_⟩;rcases Si (k::ks) S 0 s with hj |⟨_,hj⟩
  ·exact hj
  rw[aqa (h.holds i) hs] at hj;cases hj
 exact .inl hi
theorem abB:∀ (cs:List CK) (S:List Cap) {x:aaX cs},Of cs S=some x->Iq cs x=S
 |[],[],x,_=>rfl
 |[],_::_,x,e=>by simp[Of] at e
 | .kv _::r,[],x,e=>by simp[Of] at e
 | .pl _ _ _::r,[],x,e=>by simp[Of] at e
 | .kv t::r,.pl _ _ _::S,x,e=>by simp[Of] at e
 | .pl _ _ _::r,.kv _::S,x,e=>by simp[Of] at e
 | .kv t::r,.kv b::S,x,e=>by
  obtain⟨bt,bm,bx⟩:=b;simp only[Of] at e;split at e;case isFalse=>cases e
  rename_i ht;subst ht;split at e;case isFalse=>cases e
  rename_i hm;subst hm;split at e;case h_2=>cases e
  rename_i y hy;injection e with e;subst e;simp[Iq,abB r S hy]
 | .pl t s p::r,.pl t' s' p'::S,x,e=>by
  simp only[Of] at e;split at e;case isFalse=>cases e
  rename_i ht;subst ht;cases hb:Nat.beq s' s with
  |false=>rw[hb] at e;cases e
  |true=>
  rw[hb] at e;simp only[ab] at e;have:=aw hb;subst this;split at e;case isFalse=>cases e
  rename_i hp;subst hp;simp[Iq,abB r S e]
theorem PU:∀ (ks:List Kd) (S:St) {x:Fu ks},proj ks S=some x->(shape ks x).length=S.length/\∀ i,(shape ks x).at i=.dead∨((shape ks x).at i=S.at i/\((∃ t m y,ks[i]?=some (.v t m)/\S.at i=.v ⟨t,m,y⟩ [])∨(∃ t s,ks[i]?=some (.al t s)/\S.at i=.al t s [])∨∃ f cs y,ks[i]?=some (.EY f cs)/\S.at i=.EY f (Iq cs y)))
 |[],[],x,_=>⟨rfl,λi=>.inl rfl⟩
 |[],_::_,x,e=>by simp[proj] at e
 | .dead::r,[],x,e=>by simp[proj] at e
 | .v _ _::r,[],x,e=>by simp[proj] at e
 | .al _ _::r,[],x,e=>by simp[proj] at e
 | .EY _ _::r,[],x,e=>by simp[proj] at e
 | .EY f cs::r,a::S,x,e=>by
  cases a with
  |EY f' kE=>
   simp only[proj] at e;cases hb:Nat.beq f' f with
   |false=>rw[hb] at e;cases e
   |true=>
   rw[hb] at e;simp only[ab] at e;have:=aw hb;subst this;split at e;case h_2=>cases e
   rename_i y z hy hz;injection e with e;subst e;obtain⟨h1,h2⟩:=PU r S hz;have hc:=abB cs kE hy;refine⟨by simp[shape,h1],λi=>?_⟩;cases i with
   |zero=>exact .inr ⟨by simp[shape,St.at,hc],.inr (.inr ⟨_,_,y,rfl,by simp[St.at,hc]⟩)⟩
   |succ i=>exact h2 i
  |_=>simp[proj] at e
 | .dead::r,a::S,x,e=>by
  simp only[proj] at e;obtain⟨h1,h2⟩:=PU r S e;refine⟨by simp[shape,h1],λi=>?_⟩;cases i with
  |zero=>exact .inl rfl
  |succ i=>exact h2 i
 | .v t m::r,a::S,x,e=>by
  cases a with
  |v b ex=>
   cases ex with
   |cons _ _=>simp[proj] at e
   |nil=>
   obtain⟨bt,bm,bx⟩:=b;simp only[proj] at e;split at e;case isFalse=>cases e
   rename_i ht;subst ht;split at e;case isFalse=>cases e
   rename_i hm;subst hm;split at e;case h_2=>cases e
   rename_i y hy;injection e with e;subst e;obtain⟨h1,h2⟩:=PU r S hy;refine⟨by simp[shape,h1],λi=>?_⟩;cases i with
   |zero=>exact .inr ⟨rfl,.inl ⟨_,_,_,rfl,rfl⟩⟩
   |succ i=>exact h2 i
  |_=>simp[proj] at e
 | .al t s::r,a::S,x,e=>by
  cases a with
  |al t' s' p=>
   cases p with
   |cons _ _=>simp[proj] at e
   |nil=>
   simp only[proj] at e;split at e;case isFalse=>cases e
   rename_i ht;subst ht;cases hb:Nat.beq s' s with
   |false=>rw[hb] at e;cases e
   |true=>
   rw[hb] at e;simp only[ab] at e;have:=aw hb;subst this;obtain⟨h1,h2⟩:=PU r S e;refine⟨by simp[shape,h1],λi=>?_⟩;cases i with
   |zero=>exact .inr ⟨rfl,.inr (.inl ⟨_,_,rfl,rfl⟩)⟩
   |succ i=>exact h2 i
  |_=>simp[proj] at e
theorem XE:∀ (ks:List Kd) (S:St) {x:Fu ks},proj ks S=some x->∀ (i:Nat) (t:Ty) (m:Md),ks[i]?=some (Kd.v t m)->(shape ks x).at i=S.at i
 |[],_,x,_,i,t,m,hi=>by simp at hi
 | .dead::r,[],x,e,_,_,_,_=>by simp[proj] at e
 | .v _ _::r,[],x,e,_,_,_,_=>by simp[proj] at e
 | .al _ _::r,[],x,e,_,_,_,_=>by simp[proj] at e
 | .EY _ _::r,[],x,e,_,_,_,_=>by simp[proj] at e
 | .EY f cs::r,a::S,x,e,i,t,m,hi=>by
  cases i with
  |zero=>simp at hi
  |succ i=>
  cases a with
  |EY f' kE=>
   simp only[proj] at e;cases hb:Nat.beq f' f with
   |false=>rw[hb] at e;cases e
   |true=>
   rw[hb] at e;simp only[ab] at e;split at e;case h_2=>cases e
   rename_i y z hy hz;injection e with e;subst e;exact XE r S hz i t m (by simpa using hi)
  |_=>simp[proj] at e
 | .dead::r,a::S,x,e,i,t,m,hi=>by
  simp only[proj] at e;cases i with
  |zero=>simp at hi
  |succ i=>exact XE r S e i t m (by simpa using hi)
 | .v t0 m0::r,a::S,x,e,i,t,m,hi=>by
  cases i with
  |zero=>
  obtain⟨_,h2⟩:=PU _ _ e;rcases h2 0 with h |h
  ·simp only[shape] at h;cases h
  exact h.1
  |succ i=>
  cases a with
  |v b ex=>
   cases ex with
   |cons _ _=>simp[proj] at e
   |nil=>
   obtain⟨bt,bm,bx⟩:=b;simp only[proj] at e;split at e;case isFalse=>cases e
   rename_i ht;subst ht;split at e;case isFalse=>cases e
   split at e;case h_2=>cases e
   rename_i y hy;injection e with e;subst e;exact XE r S hy i t m (by simpa using hi)
  |_=>simp[proj] at e
 | .al t0 s::r,a::S,x,e,i,t,m,hi=>by
  cases i with
  |zero=>simp at hi
  |succ i=>
  cases a with
  |al t' s' p=>
   cases p with
   |cons _ _=>simp[proj] at e
   |nil=>
   simp only[proj] at e;split at e;case isFalse=>cases e
   cases hb:Nat.beq s' s with
   |false=>rw[hb] at e;cases e
   |true=>rw[hb] at e;exact XE r S e i t m (by simpa using hi)
  |_=>simp[proj] at e
theorem aiu:∀ (all ks:List Kd),wU all ks=true->∀ (i:Nat) (t:Ty) (s:Nat),ks[i]?=some (Kd.al t s)->∃ t' m',all[s]?=some (Kd.v t' m')
 |all,[],_,i,t,s,hi=>by simp at hi
 |all,k::r,h,i,t,s,hi=>by
  cases i with
  |zero=>
  simp only[aE,ah] at hi;subst hi;simp only[wU,ai] at h;have:=h.1;split at this
  ·rename_i t' m' h';exact⟨t',m',h'⟩
  cases this
  |succ i=>refine aiu all r ?_ i t s (by simpa using hi);cases k<;>simp only[wU,ai] at h<;>first |exact h |exact h.2
theorem aeV:∀ (all ks:List Kd),wU all ks=true->∀ (i:Nat) (f:FuncId) (cs:List CK),ks[i]?=some (Kd.EY f cs)->∀ t s p,CK.pl t s p∈cs->∃ t' m',all[s]?=some (Kd.v t' m')
 |all,[],_,i,f,cs,hi=>by simp at hi
 |all,k::r,h,i,f,cs,hi=>by
  cases i with
  |zero=>
  simp only[aE,ah] at hi;subst hi;simp only[wU,ai,aO] at h;intro t s p hc;have:=h.1 _ hc;simp only at this;split at this
  ·rename_i t' m' h';exact⟨t',m',h'⟩
  cases this
  |succ i=>refine aeV all r ?_ i f cs (by simpa using hi);cases k<;>simp only[wU,ai] at h<;>first |exact h |exact h.2
theorem OB:∀ (cs:List CK) (y:aaX cs) (d:Nat),((Iq cs y).any λc=>match c with
  | .pl _ s _=>Nat.beq s d
  | .kv _=>false)=true->∃ t p,CK.pl t d p∈cs
 |[],y,d,h=>by simp[Iq] at h
 | .kv t::r,y,d,h=>by
  simp only[Iq,vE,eV] at h
  obtain⟨t',p,hm⟩:=OB r y.2 d h
  exact⟨t',p,er _ hm⟩
 | .pl t s p::r,y,d,h=>by
  simp only[Iq,vE,bo] at h
  rcases h with h |h
  ·have:=aw h
   subst this
   exact⟨t,p,lQ ..⟩
  ·obtain⟨t',p',hm⟩:=OB r y d h
   exact⟨t',p',er _ hm⟩
theorem aq' (h:Rel w0 W0 Z H S a w) (i:Nat) (k:Kd):Rel w0 W0 Z H (auY S i k) a w:=by
 unfold auY;split;case h_2=>exact h
 rename_i t m;cases hk:m.fu with
 |true=>exact h
 |false=>
 simp only[ae];split;case h_2=>exact h
 rename_i t' s nM;split;case h_2=>exact h
 rename_i b S1 hb;obtain⟨σ,h⟩:=h;obtain⟨eK,cs,ow,h1,hm,hM,hkk,hn⟩:=rX (Θ:=[]) (T:=0) (x:=.tmp i) h (by simp only[St.pT];rw[nM]) hb;let P0:Program:=default;obtain⟨v2,hr2,lR,h3⟩:=Lw (P:=P0) (dst:=some i) (n:=S.length) (s:=(pure (Next.value (gV a i)):Sem Next)) h1 hkk hn (λw2 _=>rfl) hm hM;have hv2:=hr2 w (Ext.refl w);have e1:Next.value (gV a i)=Next.value v2:=by have:(Result.ok (Next.value (gV a i)) w:Result Next)=Result.ok (Next.value v2) w:=hv2;injection this
 injection e1 with e1;subst e1;rw[Iy] at h3;exact⟨lR,h3⟩
theorem abC:∀ (ks:List Kd) (i:Nat) {S:St},Rel w0 W0 Z H S a w->Rel w0 W0 Z H (akI ks i S) a w
 |[],_,_,h=>h
 |k::r,i,_,h=>abC r (i+1) (aq' h i k)
theorem Ka (h:Rel w0 W0 Z H S a w) (e:J4 ks S=some S1):Rel w0 W0 Z H S1 a w:=by
 obtain⟨σ,h⟩:=abC ks 0 h;unfold J4 at e;cases hk:wU ks ks with
 |false=>rw[hk] at e;cases e
 |true=>
 rw[hk] at e;simp only[ab] at e;split at e;case h_2=>cases e
 rename_i x N9;injection e with e;subst e;obtain⟨h1,h2⟩:=PU ks _ N9;refine⟨σ,h.less h1 λi=>?_⟩;rcases h2 i with hi |⟨hi,hx⟩
 ·exact .inl hi
 refine .inr ⟨hi,λs hs=>?_⟩;rcases hx with⟨t,m,y,_,h3⟩ |⟨t,s',hk1,h3⟩ |⟨f,cs,y,hk1,h3⟩
 ·rw[h3] at hs;cases hs
 ·rw[h3] at hs;have:s'=s:=aw hs;subst this;obtain⟨t',m',h4⟩:=aiu ks ks hk i t s' hk1;exact XE ks _ N9 s' t' m' h4
 rw[h3] at hs;obtain⟨t',p,h5⟩:=OB cs y s hs;obtain⟨t',m',h4⟩:=aeV ks ks hk i f cs hk1 _ _ _ h5;exact XE ks _ N9 s t' m' h4
end Go.Pv
namespace Go.Pv
open List Int IntKind
variable {P:Program} {w w':World} {H:Nat->Value} {S S' S1:St} {σ eK:Nat->Option Nat} {w0:World} {W0 Z:Nat->Prop} {a:Act} {Θ:nh}
end Go.Pv
namespace Go.Pv
open List Int IntKind
variable {Γ:Gl} {P:Program} {w w':World} {A A' Wr:Nat->Prop} {H:Nat->Value} {tm Nj:Nat->Value} {S S' S1:St} {σ eK lR:Nat->Option Nat} {w0:World} {W0 Z:Nat->Prop} {a:Act} {own:Nat->Prop} {v:Value} {Θ:nh} {dst:Option Nat} {O:vi} {hh:Hint} {Q:Exit->Act->World->Prop} {K:St->aa} {ret:jD} {ops:Array Oper}
theorem ara (h:dp σ w0 W0 Z H S a w) (hi:i<S.length):a.tmps[i]?=some (gV a i):=by
 have hl:i<a.tmps.size:=by rw[←h.len];exact hi
 unfold gV;rw[fp,dw hl];rfl
theorem alh (h:dp σ w0 W0 Z H S a w) {j d:Nat} {m:Md} {q:Bool} {ex:List Path} (hd:(ops[j]?).bind (·.dst)=some d) (nM:S.at d=.v ⟨.bool,m,q⟩ ex):yielded ops a.tmps j=some q/\gV a d=.bool q:=by have hl:=qF (S:=S) (i:=d) (by rw[nM];exact λe=>by cases e);have hh:=h.holds d;rw[nM] at hh;obtain⟨cs,h1,h2⟩:=hh;simp only[M] at h2;have hv:=lO h1 h2.2;refine⟨?_,hv⟩;unfold yielded;rw[hd,aL,ara h hl,hv]
theorem aiv (h:dp σ w0 W0 Z H S a w) {j d:Nat} (hd:(ops[j]?).bind (·.dst)=some d) (nM:S.at d=.undef):yielded ops a.tmps j=none:=by have hl:=qF (S:=S) (i:=d) (by rw[nM];exact λe=>by cases e);have hh:=h.holds d;rw[nM] at hh;have hv:gV a d=undef:=hh;unfold yielded;rw[hd,aL,ara h hl,hv];rfl
theorem Rel.undef (h:dp σ w0 W0 Z H S a w) (dst:Option Nat):Rel w0 W0 Z H (S.put dst .undef) (a.put dst Go.undef) w:=⟨_,h.pure (av:=.undef) (v:=Go.undef) rfl⟩
theorem arb {S:St} {d:Nat} {a:AV} (h:S.at d=a) (hd:a≠ .dead):S.set d a=S:=by
 unfold St.at at h;rw[aF] at h;by_cases hl:d<S.length
 ·rw[aU hl] at h;simp only[qx] at h;subst h;simp
 rw[cA (by omega)] at h;exact absurd h.symm hd
theorem Sj (h:dp σ w0 W0 Z H S a w) {i:Nat} {o:Oper} (ho:ops[i]?=some o) (e:cV hh O ops i S K=some ret): (Region.wanted o (yielded ops a.tmps)=true/\∃ nK S',dp nK w0 W0 Z H S' a w/\wV hh O o S' K=some ret)∨ (Region.wanted o (yielded ops a.tmps)=false/\ad6 w0 W0 Z H K ret (a.put o.dst undef) w):=by
 unfold cV at e;rw[ho] at e;simp only at e;split at e
 ·rename_i hg;exact .inl ⟨by simp[Region.wanted,hg],σ,S,h,e⟩
 rename_i j want hg;split at e;case h_2=>cases e
 rename_i d hd;split at e
 ·rename_i m q ex nM;obtain⟨hy,hv⟩:=alh h hd nM;have hw:Region.wanted o (yielded ops a.tmps)=(q==want):=by unfold Region.wanted;rw[hg];simp only[hy];cases q<;>cases want<;>rfl
  have aiw:=arb nM (λe=>by cases e);cases q with
  |true=>
   simp only[ab,aiw] at e;cases want with
   |true=>exact .inl ⟨hw,σ,_,h,e⟩
   |false=>exact .inr ⟨hw,_,e,Rel.undef h o.dst⟩
  |false=>
  simp only[ae,aiw] at e;cases want with
  |true=>exact .inr ⟨hw,_,e,Rel.undef h o.dst⟩
  |false=>exact .inl ⟨hw,σ,_,h,e⟩
 ·rename_i nM;have hy:=aiv h hd nM;refine .inr ⟨?_,_,e,Rel.undef h o.dst⟩;unfold Region.wanted;rw[hg];simp only[hy];rfl
 cases e
theorem Ur (hT:ke P hh.tab=true) (hO:LD Γ P O w0 W0) (h:dp σ w0 W0 Z H S a w) (e:cV hh O ops i S K=some ret): wpOp P ops Q i (λa' w'=>ad6 w0 W0 Z H K ret a' w'/\(∀ o,ops[i]?=some o->ZF O o.op=true->Ext w w')) a w:=by
 unfold wpOp;cases ho:ops[i]? with
 |none=>unfold cV at e;rw[ho] at e;cases e
 |some o=>
 simp only;rcases Sj h ho e with⟨hw,nK,S',h',e'⟩ |⟨hw,aix⟩
 ·rw[aA hw];refine .inl (Oper.wp_mono (λa' w' h=>⟨h.1,λo' ho'=>?_⟩) (aBo hT hO h' e'));injection ho' with ho';subst ho';exact h.2
 rw[aq (by rw[hw];exact lP)];exact⟨aix,λ_ _ _=>Ext.refl w⟩
theorem arc (hT:ke P hh.tab=true) (hO:LD Γ P O w0 W0) (hQ:∀ a w,ad6 w0 W0 Z H K ret a w->Q .normal a w):∀ (l:List Nat) {S:St} {a:Act} {w:World},J6 hh O ops l S K=some ret->Rel w0 W0 Z H S a w->wpOps P ops Q l a w
 |[],S,a,w,e,h=>hQ a w ⟨S,e,h⟩
 |i::l,S,a,w,e,⟨σ,h⟩=>by rw[wpOps_cons];simp only[J6] at e;refine mK (λa' w' h'=>?_) (Ur hT hO h e);obtain⟨⟨S',h1,h2⟩,_⟩:=h';exact arc hT hO hQ l h1 h2
theorem aaC (hT:ke P hh.tab=true) (hO:LD Γ P O w0 W0) (hQ:∀ a w,ad6 w0 W0 Z H K ret a w->Q .normal a w):∀ (l:OT) {q:List Nat} {S:St} {a:Act} {w:World},l.line=some q->kj hh O ops l S K=some ret->Rel w0 W0 Z H S a w->wpOps P ops Q q a w
 | .done,q,S,a,w,hq,e,h=>by simp only[OT.line,ah] at hq;subst hq;exact hQ a w ⟨S,e,h⟩
 | .one i t,q,S,a,w,hq,e,⟨σ,h⟩=>by simp only[OT.line,mY] at hq;obtain⟨r,hr,rfl⟩:=hq;rw[wpOps_cons];simp only[kj] at e;refine mK (λa' w' h'=>?_) (Ur hT hO h e);obtain⟨⟨S',h1,h2⟩,_⟩:=h';exact aaC hT hO hQ t hr h1 h2
 | .cut ks t,q,S,a,w,hq,e,h=>by
  simp only[OT.line] at hq;simp only[kj] at e;split at e;case h_2=>cases e
  rename_i S1 hg;exact aaC hT hO hQ t hq e (Ka h hg)
 | .fz _ t,q,S,a,w,hq,e,h=>by simp only[OT.line] at hq;simp only[kj] at e;exact aaC hT hO hQ t hq e (abz h _)
 | .any _ _,q,S,a,w,hq,e,h=>by cases hq
 | .par _ _ _,q,S,a,w,hq,e,h=>by cases hq
 | .own _ _,q,S,a,w,hq,e,h=>by cases hq
theorem Ext.trans (h:Ext w1 w2) (h':Ext w2 w3):Ext w1 w3:=λg hg=>by
 have h1:=h g hg;have:g<w2.heap.size:=by rw[dw hg] at h1;exact dz h1
 rw[h' g this,h1]
def wpE (P:Program) (ops:Array Oper) (Q:Exit->Act->World->Prop) (ad:Nat->Bool):Nat->Array Bool->Act->World->Prop
 |0,listed,a,w=>Region.ready .any ops listed=[]/\Q .normal a w
 |n+1,listed,a,w=>(Region.ready .any ops listed=[]->Q .normal a w)/\ ∀ i∈Region.ready .any ops listed,wpOp P ops Q i (λa' w'=>(ad i=true->Ext w w')/\wpE P ops Q ad n (listed.setIfInBounds i true) a' w') a w
theorem anz:∀ (n:Nat) {listed:Array Bool} {a:Act} {w:World},wpE P ops Q ad n listed a w->wpAny P .any ops Q n listed a w
 |0,_,_,_,h=>h
 |n+1,_,_,_,h=>⟨h.1,λi hi=>mK (λ_ _ h'=>anz n h'.2) (h.2 i hi)⟩
theorem apd {ad:Nat->Bool} (hi:ops[i]?=some oi) (abD:∀ (j:Nat) (o:Oper) cs b,ops[j]?=some o->o.op≠ .select cs b) (hQ:∀ c a w,Q (.panic c) (a.put oi.dst v) w->Q (.panic c) a w) {D:Nat->Bool} (hDi:D i=true) (hD:∀ j oj,ops[j]?=some oj->D j=true->j≠i->∃ e∈oj.after,Region.binds .any e=true/\D e.on=true): ∀ (fuel:Nat) (listed:Array Bool) (a:Act) (w:World),(∀ j,D j=true->listed.getD j true=false)-> (∀ j oj,ops[j]?=some oj->D j=false->listed.getD j true=false->oi.apart ops oj=true/\ad j=true)-> i∈Region.ready .any ops listed->YieldsIf P ops (Ext w) oi v a->wpE P ops Q ad fuel (listed.setIfInBounds i true) (a.put oi.dst v) w->wpE P ops Q ad (fuel+1) listed a w:=by
 intro fuel;induction fuel with
 |zero=>
 intro listed a w _ _ hr hy HH;refine⟨λh=>(by rw[h] at hr;cases hr),λj hj=>?_⟩;by_cases HE:j=i
 ·subst HE;exact hy.wpOp hi (Ext.refl w) ⟨λ_=>Ext.refl w,HH⟩
 have:=pV hj HE;rw[HH.1] at this;cases this
 |succ fuel ih=>
 intro listed a w hun aiy hr hy HH;refine⟨λh=>(by rw[h] at hr;cases hr),λj hj=>?_⟩;by_cases HE:j=i
 ·subst HE;exact hy.wpOp hi (Ext.refl w) ⟨λ_=>Ext.refl w,HH⟩
 have h1:=HH.2 j (pV hj HE);obtain⟨ard,oj,JV,tZ⟩:=kG.1 hj;have hDj:D j=false:=by
  cases hd:D j with
  |false=>rfl
  |true=>
  obtain⟨e,he,hb,hde⟩:=hD j oj JV hd HE;have h2:=tZ e he hb;have h3:=hun e.on hde;rcases gP e.on listed.size with hl |hl
  ·simp[hl] at h2 h3;rw[h3] at h2;cases h2
  simp[qJ hl] at h2
 obtain⟨hap,had⟩:=aiy j oj JV hDj ard;have h2:=wpOp_putIf JV hap (λcs b=>abD i oi cs b hi) (λcs b=>abD j oj cs b JV) hQ hy h1;refine mK (λa' w' h3=>⟨λ_=>h3.2.1 had,?_⟩) h2;have aDQ:=h3.2.1 had;refine ih (listed.setIfInBounds j true) a' w' (λk hk=>?_) (λk ok hk hdk are=>aiy k ok hk hdk ?_) (pV hr (pz HE)) ?_ ?_
 ·have hjk:j≠k:=λe=>(by subst e;rw[hDj] at hk;cases hk);rw[wZ true hjk];exact hun k hk
 ·by_cases hjk:j=k
  ·subst hjk;exact ard
  rw[wZ true hjk] at are;exact are
 ·exact h3.1.imp (λ⟨q1,q2⟩=>⟨q1,λw2 MC=>q2 w2 (aDQ.trans MC)⟩) id
 rw[Array.setIfInBounds_comm _ _ HE];exact h3.2.2
theorem abE {ad:Nat->Bool} (hi:ops[i]?=some oi) (abD:∀ (j:Nat) (o:Oper) cs b,ops[j]?=some o->o.op≠ .select cs b) (hQ:∀ c a w,Q (.panic c) (a.put oi.dst v) w->Q (.panic c) a w) {D:Nat->Bool} (hDi:D i=true) (hD:∀ j oj,ops[j]?=some oj->D j=true->j≠i->∃ e∈oj.after,Region.binds .any e=true/\D e.on=true): ∀ (fuel:Nat) (listed:Array Bool) (a:Act) (w:World),(∀ j,D j=true->listed.getD j true=false)-> (∀ j oj,ops[j]?=some oj->D j=false->listed.getD j true=false->oi.apart ops oj=true)-> i∈Region.ready .any ops listed->YieldsIf P ops (λ_=>True) oi v a->wpE P ops Q ad fuel (listed.setIfInBounds i true) (a.put oi.dst v) w->wpE P ops Q ad (fuel+1) listed a w:=by
 intro fuel;induction fuel with
 |zero=>
 intro listed a w _ _ hr hy HH;refine⟨λh=>(by rw[h] at hr;cases hr),λj hj=>?_⟩;by_cases HE:j=i
 ·subst HE;exact hy.wpOp hi trivial ⟨λ_=>Ext.refl w,HH⟩
 have:=pV hj HE;rw[HH.1] at this;cases this
 |succ fuel ih=>
 intro listed a w hun aiy hr hy HH;refine⟨λh=>(by rw[h] at hr;cases hr),λj hj=>?_⟩;by_cases HE:j=i
 ·subst HE;exact hy.wpOp hi trivial ⟨λ_=>Ext.refl w,HH⟩
 have h1:=HH.2 j (pV hj HE);obtain⟨ard,oj,JV,tZ⟩:=kG.1 hj;have hDj:D j=false:=by
  cases hd:D j with
  |false=>rfl
  |true=>
  obtain⟨e,he,hb,hde⟩:=hD j oj JV hd HE;have h2:=tZ e he hb;have h3:=hun e.on hde;rcases gP e.on listed.size with hl |hl
  ·simp[hl] at h2 h3;rw[h3] at h2;cases h2
  simp[qJ hl] at h2
 have hap:=aiy j oj JV hDj ard;have h2:=wpOp_putIf JV hap (λcs b=>abD i oi cs b hi) (λcs b=>abD j oj cs b JV) hQ hy h1;refine mK (λa' w' h3=>⟨h3.2.1,?_⟩) h2;refine ih (listed.setIfInBounds j true) a' w' (λk hk=>?_) (λk ok hk hdk are=>aiy k ok hk hdk ?_) (pV hr (pz HE)) ?_ ?_
 ·have hjk:j≠k:=λe=>(by subst e;rw[hDj] at hk;cases hk);rw[wZ true hjk];exact hun k hk
 ·by_cases hjk:j=k
  ·subst hjk;exact ard
  rw[wZ true hjk] at are;exact are
 ·exact h3.1
 rw[Array.setIfInBounds_comm _ _ HE];exact h3.2.2
theorem w5 (j k:Nat):Nat.testBit (2^j) k=decide (j=k):=Nat.testBit_two_pow
theorem Zd (h:Nat.testBit (dH o) k=true):∃ e∈o.after,Region.binds .any e=true/\e.on=k:=by
 have key:∀ (l:List Edge),Nat.testBit (l.foldr (λe m=>bif Region.binds .any e then m|||2^e.on else m) 0) k=true->∃ e∈l,Region.binds .any e=true/\e.on=k:=by
  intro l;induction l with
  |nil=>intro h;simp at h
  |cons e r ih=>
  intro h;simp only[List.foldr_cons] at h;cases hb:Region.binds .any e with
  |false=>rw[hb] at h;obtain⟨e',h1,h2⟩:=ih h;exact⟨e',er _ h1,h2⟩
  |true=>
  rw[hb] at h;simp only[ab,bp,bo,w5,ax] at h;rcases h with h |h
  ·obtain⟨e',h1,h2⟩:=ih h;exact⟨e',er _ h1,h2⟩
  exact⟨e,lQ ..,hb,h⟩
 obtain⟨e,h1,h2⟩:=key _ h;exact⟨e,by simpa using h1,h2⟩
theorem ali (he:e∈o.after) (hb:Region.binds .any e=true):Nat.testBit (dH o) e.on=true:=by
 have key:∀ (l:List Edge),e∈l->Nat.testBit (l.foldr (λe m=>bif Region.binds .any e then m|||2^e.on else m) 0) e.on=true:=by
  intro l;induction l with
  |nil=>intro h;cases h
  |cons e' r ih=>
  intro h;simp only[List.foldr_cons];rcases aV.1 h with rfl |h
  ·rw[hb];simp[bp,w5]
  cases Region.binds .any e'<;>simp[bp,ih h]
 exact key _ (by simpa using he)
theorem Sk (i:Nat):∀ (r:List Nat) (j acc k:Nat),Nat.testBit acc k=true->Nat.testBit (dG i r j acc) k=true
 |[],_,_,_,h=>h
 |m::r,j,acc,k,h=>by simp only[dG];refine Sk i r _ _ k ?_;cases (Nat.beq j i|| !(Nat.beq (m&&&acc) 0))<;>simp[bp,h]
theorem abF (i:Nat):∀ (r:List Nat) (j acc:Nat),j<=i->i<j+r.length->Nat.testBit (dG i r j acc) i=true
 |[],_,_,h1,h2=>by simp at h2;omega
 |m::r,j,acc,h1,h2=>by
  simp only[dG];by_cases hj:j=i
  ·subst hj;refine Sk _ r _ _ _ ?_;simp[bp,w5]
  exact abF i r _ _ (by omega) (by simp only[an] at h2;omega)
theorem Sl (i:Nat):∀ (r:List Nat) (j acc k:Nat),Nat.testBit (dG i r j acc) k=true-> Nat.testBit acc k=true∨∃ q m,k=j+q/\r[q]?=some m/\(k=i∨∃ t,Nat.testBit m t=true/\Nat.testBit (dG i r j acc) t=true)
 |[],_,_,_,h=>.inl h
 |m::r,j,acc,k,h=>by
  simp only[dG] at h ⊢;rcases Sl i r _ _ k h with h1 |⟨q,m',h1,h2,h3⟩
  ·cases hc:(Nat.beq j i|| !(Nat.beq (m&&&acc) 0)) with
   |false=>rw[hc] at h1;exact .inl h1
   |true=>
   rw[hc] at h1;simp only[ab,bp,bo,w5,ax] at h1;rcases h1 with h1 |rfl
   ·exact .inl h1
   refine .inr ⟨0,m,by omega,rfl,?_⟩;rw[bo] at hc;rcases hc with hc |hc
   ·exact .inl (aw hc)
   right;have xB:m&&&acc≠0:=λe=>by rw[e] at hc;cases hc
   obtain⟨t,ht⟩:=Nat.exists_testBit_of_ne_zero xB;rw[dR,ai] at ht;refine⟨t,ht.1,Sk i r _ _ t ?_⟩;simp[bp,ht.2]
  exact .inr ⟨q+1,m',by omega,by simpa using h2,h3⟩
theorem Ry :∀ (r:List Oper) (j:Nat),TS O ops oi rest r j=true->∀ (q:Nat) (oj:Oper),r[q]?=some oj->Nat.testBit rest (j+q)=true->oi.apart ops oj=true/\ZF O oj.op=true
 |[],_,_,q,oj,h,_=>by simp at h
 |o::r,j,h,q,oj,hq,ht=>by
  simp only[TS,ai] at h;cases q with
  |zero=>simp only[aE,ah] at hq;subst hq;rw[dZ] at ht;rw[ht] at h;simpa using h.1
  |succ q=>exact Ry r (j+1) h.2 q oj (by simpa using hq) (by rw[←ht];congr 1;omega)
theorem arf (hT:ke P hh.tab=true) (h:dp σ w0 W0 Z H S a w) (ho:ops[i]?=some o) (hq:quiet o.op=true) (hn:MH o.op=false) (e:cV hh O ops i S K=some ret): ∃ v,YieldsIf P ops (Ext w) o v a/\ad6 w0 W0 Z H K ret (a.put o.dst v) w:=by
 rcases Sj h ho e with⟨hw,nK,S',h',e'⟩ |⟨hw,aix⟩
 ·unfold wV at e';split at e'
  ·rename_i f as ts fL;rw[fL] at hq;cases hq
  ·rename_i i' as ts fL;rw[fL] at hq;cases hq
  ·rename_i fL;rw[fL] at hn;cases hn
  ·rename_i fL;rw[fL] at hn;cases hn
  split at e';case h_2=>cases e'
  rename_i g S1 hev;cases g with
  |false=>cases e'
  |true=>obtain⟨v,h1,h2⟩:=aqZ hT h' hq hev;exact⟨v,.inl ⟨hw,h1⟩,S1,e',h2⟩
 exact⟨undef,.inr ⟨hw,rfl⟩,aix⟩
theorem A3 :∀ (r:List Oper) (j:Nat),D3 ops oi rest r j=true->∀ (q:Nat) (oj:Oper),r[q]?=some oj->Nat.testBit rest (j+q)=true->oi.apart ops oj=true
 |[],_,_,q,oj,h,_=>by simp at h
 |o::r,j,h,q,oj,hq,ht=>by
  simp only[D3,ai] at h;cases q with
  |zero=>simp only[aE,ah] at hq;subst hq;rw[dZ] at ht;rw[ht] at h;simpa using h.1
  |succ q=>exact A3 r (j+1) h.2 q oj (by simpa using hq) (by rw[←ht];congr 1;omega)
theorem Us :∀ (r:List Oper) (j:Nat),(∀ (q:Nat) (oj:Oper),r[q]?=some oj->Nat.testBit rest (j+q)=true->oi.apart ops oj=true)->D3 ops oi rest r j=true
 |[],_,_=>rfl
 |o::r,j,h=>by
  unfold D3;rw[ai];refine⟨?_,Us r (j+1) λq oj hq ht=>h (q+1) oj (by simpa using hq) (by rw[←ht];congr 1;omega)⟩;cases hb:Nat.testBit rest j with
  |false=>rfl
  |true=>exact h 0 o rfl (by rw[dZ];exact hb)
theorem aiz (hT:ke P hh.tab=true) (h:dp σ w0 W0 Z H S a w) (ho:ops[i]?=some o) (hqT:Xh hh.tab o.op=true) (e:cV hh O ops i S K=some ret): ∃ v,YieldsIf P ops (λ_=>True) o v a/\ad6 w0 W0 Z H K ret (a.put o.dst v) w:=by
 have hq:still o.op=true:=by unfold Xh at hqT;simp only[ai] at hqT;exact hqT.1.1
 have hnn:MH o.op=false:=by unfold Xh at hqT;simp only[ai,b8] at hqT;exact hqT.1.2
 have NQ:alb o.op=true:=by unfold still at hq;split at hq<;>first |(rename_i fL;rw[fL];rfl) |cases hq
 rcases Sj h ho e with⟨hw,nK,S',h',e'⟩ |⟨hw,aix⟩
 ·unfold wV at e';split at e'
  ·rename_i f as ts fL;rw[fL] at hq;cases hq
  ·rename_i i' as ts fL;rw[fL] at hq;cases hq
  ·rename_i fL;rw[fL] at hnn;simp[MH] at hnn
  ·rename_i fL;rw[fL] at hnn;simp[MH] at hnn
  split at e';case h_2=>cases e'
  rename_i g S1 hev;cases g with
  |false=>cases e'
  |true=>obtain⟨v,h1,h2⟩:=ayJ hT h' NQ (by unfold Xh at hqT;simp only[ai] at hqT;exact hqT.2) hev;exact⟨v,.inl ⟨hw,λw _=>h1 w⟩,S1,e',h2⟩
 exact⟨undef,.inr ⟨hw,rfl⟩,aix⟩
def ad7 (ops:Array Oper) (listed:Array Bool) (L:Nat):Prop:=listed.size=ops.size/\∀ j,j<ops.size->listed[j]?=some (Nat.testBit L j)
theorem ad7.set (h:ad7 ops listed L) (hi:i<ops.size):ad7 ops (listed.setIfInBounds i true) (L|||2^i):=by
 refine⟨by simp[h.1],λj hj=>?_⟩;rw[mT];by_cases PM:i=j
 ·subst PM;simp[h.1,hi,bp,w5]
 rw[aq PM,h.2 j hj,bp,w5];simp[PM]
theorem ad7.getD (h:ad7 ops listed L) (hj:j<ops.size) (d:Bool):listed.getD j d=Nat.testBit L j:=by rw[fp,h.2 j hj];rfl
theorem ad7.out (h:ad7 ops listed L) (hj: ¬j<ops.size) (d:Bool):listed.getD j d=d:=by rw[fp,qJ (by rw[h.1];omega)];rfl
def ayQ (ops:Array Oper) (as:List Nat) (i j:Nat):Prop:=∃ m oi oj,as[j]?=some m/\ops[i]?=some oi/\ops[j]?=some oj/\i≠j/\(Nat.testBit m i=true∨aep ops oi oj=true)
theorem Sm:∀ {l:List Nat},aaY ops as l=true↔l.Pairwise (ayQ ops as)
 |[]=>by simp[aaY]
 |i::r=>by
  simp only[aaY,ai,aO,bZ,Sm (l:=r)];refine and_congr (AP λj=>AP λhj=>?_) Iff.rfl;constructor
  ·intro h;split at h;case h_2=>cases h
   rename_i m oi oj h1 h2 h3;simp only[ai,b8,bo] at h;exact⟨m,oi,oj,h1,h2,h3,λe=>by(subst e;rw[bV] at h;cases h.1),h.2⟩
  rintro⟨m,oi,oj,h1,h2,h3,h4,h5⟩;rw[h1,h2,h3];simp only[ai,b8,bo];refine⟨?_,h5⟩;cases hb:Nat.beq i j with
  |false=>rfl
  |true=>exact absurd (aw hb) h4
theorem aeW:∀ (l:List Nat) {L L':Nat},(∀ k,Nat.testBit L k=true->Nat.testBit L' k=true)->Is as L l=true->Is as L' l=true
 |[],_,_,_,_=>rfl
 |i::r,L,L',hL,h=>by
  simp only[Is,ai] at h ⊢;refine⟨?_,aeW r (λk hk=>?_) h.2⟩
  ·have h1:=h.1;split at h1;case h_2=>cases h1
   rename_i m hm;have h2:=aw h1;have:m&&&L'=m:=k9 λk=>by
    rw[dR];cases hk:Nat.testBit m k with
    |false=>rfl
    |true=>have h3:Nat.testBit (m&&&L) k=true:=(by rw[h2];exact hk);rw[dR,hk] at h3;rw[hL k (by simpa using h3)];rfl
   rw[this];exact bV m
  rw[bp,bo] at hk ⊢;exact hk.imp (hL k) id
theorem abG :∀ (p r:List Nat) {L:Nat},Is as L (p++j::r)=true->Is as (L|||2^j) (p++r)=true
 |[],r,L,h=>by simp only[b7,Is,ai] at h;exact h.2
 |x::p,r,L,h=>by simp only[bF,Is,ai] at h ⊢;have h0:Is as (L|||2^j) [x]=true:=aeW [x] (L:=L) (λk hk=>by rw[bp,hk];rfl) (by simp only[Is,ai];exact⟨h.1,trivial⟩);simp only[Is,ai] at h0;refine⟨h0.1,?_⟩;have:=abG p r h.2;rwa [oh,Nat.or_comm (2^x),←oh] at this
theorem zg:∀ (l:List Nat) (k:Nat),Nat.testBit (qG l) k=decide (k∈l)
 |[],k=>by simp[qG]
 |i::r,k=>by have h:qG (i::r)=qG r|||2^i:=rfl;rw[h,bp,zg r k,w5];by_cases h1:k∈r<;>by_cases h2:i=k<;>simp[h1,h2,eq_comm]
def OT.bare:OT->Prop
 | .own _ _=>False
 | .cut _ _=>False
 | .fz _ _=>False
 |_=>True
theorem LG:∀ (l:OT) {S:St} {a:Act} {w:World},kj hh O ops l S K=some ret->Rel w0 W0 Z H S a w-> ∃ (l':OT) (S':St),l'.bare/\kj hh O ops l' S' K=some ret/\Rel w0 W0 Z H S' a w/\l'.len=l.len/\∀ (Θ:nh) (as:List Nat) (full L:Nat),qe Θ O ops as full L l=true->qe Θ O ops as full L l'=true
 | .own d t,S,a,w,e,h=>by
  simp only[kj] at e;split at e;case h_2=>cases e
  rename_i g S1 hg;cases g with
  |false=>cases e
  |true=>obtain⟨l',S',h1,h2,h3,h4,h5⟩:=LG t e (apb h hg);exact⟨l',S',h1,h2,h3,by simp only[OT.len];exact h4,λΘ as full L ho=>h5 Θ as full L (by simpa only[qe] using ho)⟩
 | .cut ks t,S,a,w,e,h=>by
  simp only[kj] at e;split at e;case h_2=>cases e
  rename_i S1 hg;obtain⟨l',S',h1,h2,h3,h4,h5⟩:=LG t e (Ka h hg);exact⟨l',S',h1,h2,h3,by simp only[OT.len];exact h4,λΘ as full L ho=>h5 Θ as full L (by simpa only[qe] using ho)⟩
 | .fz q t,S,a,w,e,h=>by simp only[kj] at e;obtain⟨l',S',h1,h2,h3,h4,h5⟩:=LG t e (abz h q);exact⟨l',S',h1,h2,h3,by simp only[OT.len];exact h4,λΘ as full L ho=>h5 Θ as full L (by simpa only[qe] using ho)⟩
 | .done,S,a,w,e,h=>⟨.done,S,trivial,e,h,rfl,λ_ _ _ _ h=>h⟩
 | .one i t,S,a,w,e,h=>⟨.one i t,S,trivial,e,h,rfl,λ_ _ _ _ h=>h⟩
 | .any q t,S,a,w,e,h=>⟨.any q t,S,trivial,e,h,rfl,λ_ _ _ _ h=>h⟩
 | .par q ds t,S,a,w,e,h=>⟨.par q ds t,S,trivial,e,h,rfl,λ_ _ _ _ h=>h⟩
theorem arh (hT:ke P hh.tab=true) (hO:LD Γ P O w0 W0) (hQ:∀ a w,ad6 w0 W0 Z H K ret a w->Q .normal a w) (hQp:∀ c a w,¬Q (.panic c) a w) (abD:Region.noSelect ops=true): ∀ (n:Nat) (L:Nat) (l:OT) {listed:Array Bool} {S:St} {a:Act} {w:World},qe hh.tab O ops (ops.toList.map dH) (2^ops.size - 1) L l=true->ad7 ops listed L->l.len<=n->kj hh O ops l S K=some ret->Rel w0 W0 Z H S a w-> wpE P ops Q (λj=>match ops[j]? with |some o=>ZF O o.op |none=>false) n listed a w:=by
 have aBq:∀ {listed:Array Bool} {L:Nat},ad7 ops listed L->L=2^ops.size - 1->Region.ready .any ops listed=[]:=by intro listed L hb hL;refine List.eq_nil_iff_forall_not_mem.2 λj hj=>?_;obtain⟨h1,oj,h2,_⟩:=kG.1 hj;have hj:=(cz.1 h2).1;rw[hb.getD hj,hL,gB] at h1;simp[hj] at h1
 intro n;induction n with
 |zero=>
  intro L l listed S a w ho hb hn e h;obtain⟨l,S,abH,e,h,hlen,Ni⟩:=LG l e h;replace ho:=Ni _ _ _ _ ho;rw[←hlen] at hn;clear Ni hlen;cases l with
  |own _ _=>exact abH.elim
  |cut _ _=>exact abH.elim
  |fz _ _=>exact abH.elim
  |one _ _=>simp[OT.len] at hn
  |any q _=>
   cases q with
   |nil=>simp[qe,au0] at ho
   |cons _ _=>simp[OT.len] at hn
  |par q _ _=>
   cases q with
   |nil=>simp[qe,au1] at ho
   |cons _ _=>simp[OT.len] at hn
  |done=>simp only[qe] at ho;exact⟨aBq hb (aw ho),hQ a w ⟨S,e,h⟩⟩
 |succ n ih=>
 intro L l listed S a w ho hb hn e h;obtain⟨l,S,abH,e,h,hlen,Ni⟩:=LG l e h;replace ho:=Ni _ _ _ _ ho;rw[←hlen] at hn;clear Ni hlen;have ak2:∀ (l:OT) (L:Nat),qe hh.tab O ops (ops.toList.map dH) (2^ops.size - 1) L l=true->L<2^ops.size:=by
  intro l;induction l with
  |done=>intro L h;have:=aw h;have:=Nat.two_pow_pos ops.size;omega
  |one i t ih=>intro L h;simp only[qe,ai] at h;exact nO ze (ih _ h.2)
  |any q t ih=>intro L h;simp only[qe,ai] at h;exact nO ze (ih _ h.2)
  |par q ds t ih=>intro L h;simp only[qe,ai] at h;exact nO ze (ih _ h.2)
  |own d t ih=>intro L h;simp only[qe] at h;exact ih _ h
  |fz q t ih=>intro L h;simp only[qe] at h;exact ih _ h
  |cut ks t ih=>intro L h;simp only[qe] at h;exact ih _ h
 have hL2:=ak2 l L ho;have alj:∀ (i:Nat) (oi:Oper),ops[i]?=some oi->dG i (ops.toList.map dH) 0 0&&&L=0->
   (∀ j,Nat.testBit (dG i (ops.toList.map dH) 0 0) j=true->Nat.testBit L j=false)/\Nat.testBit (dG i (ops.toList.map dH) 0 0) i=true/\
   (∀ j oj,ops[j]?=some oj->Nat.testBit (dG i (ops.toList.map dH) 0 0) j=true->j≠i->∃ e∈oj.after,Region.binds .any e=true/\Nat.testBit (dG i (ops.toList.map dH) 0 0) e.on=true)/\
   (∀ j,Nat.testBit (dG i (ops.toList.map dH) 0 0) j=true->j<ops.size):=by
  intro i oi hoi c3
  have hi:i<ops.size:=(cz.1 hoi).1
  have hW3:∀ j,Nat.testBit (dG i (ops.toList.map dH) 0 0) j=true->Nat.testBit L j=false:=λj hj=>by
   have:Nat.testBit (dG i (ops.toList.map dH) 0 0&&&L) j=false:=by rw[c3];simp
   rw[dR,hj] at this
   simpa using this
  have hWi:Nat.testBit (dG i (ops.toList.map dH) 0 0) i=true:=abF i _ 0 0 (fY _) (by simpa using hi)
  have hWs:∀ j oj,ops[j]?=some oj->Nat.testBit (dG i (ops.toList.map dH) 0 0) j=true->j≠i->∃ e∈oj.after,Region.binds .any e=true/\Nat.testBit (dG i (ops.toList.map dH) 0 0) e.on=true:=λj oj JV hj HE=>by
   rcases Sl i _ _ _ j hj with hx |⟨q,m,hq,hm,hx⟩
   ·simp at hx
   ·rw[aW] at hq
    subst hq
    rw[bR,bK,JV] at hm
    simp only[aS,ah] at hm
    subst hm
    rcases hx with hx |⟨t,h1,h2⟩
    ·exact absurd hx HE
    ·obtain⟨e,he,hbd,rfl⟩:=Zd h1
     exact⟨e,he,hbd,h2⟩
  have agi:∀ j,Nat.testBit (dG i (ops.toList.map dH) 0 0) j=true->j<ops.size:=λj hj=>by
   rcases Sl i _ _ _ j hj with hx |⟨q,m,hq,hm,hx⟩
   ·simp at hx
   ·have:=(bO.1 hm).1
    simp at this
    omega
  exact⟨hW3,hWi,hWs,agi⟩
 have facts:∀ (i:Nat) (oi:Oper),ops[i]?=some oi->Nat.testBit L i=false->dH oi&&&L=dH oi->dG i (ops.toList.map dH) 0 0&&&L=0->
   (∀ j,Nat.testBit (dG i (ops.toList.map dH) 0 0) j=true->Nat.testBit L j=false)/\Nat.testBit (dG i (ops.toList.map dH) 0 0) i=true/\
   (∀ j oj,ops[j]?=some oj->Nat.testBit (dG i (ops.toList.map dH) 0 0) j=true->j≠i->∃ e∈oj.after,Region.binds .any e=true/\Nat.testBit (dG i (ops.toList.map dH) 0 0) e.on=true)/\
   (∀ j,Nat.testBit (dG i (ops.toList.map dH) 0 0) j=true->j<ops.size)/\i∈Region.ready .any ops listed:=by
  intro i oi hoi c1 c2 c3
  have hi:i<ops.size:=(cz.1 hoi).1
  obtain⟨hW3,hWi,hWs,agi⟩:=alj i oi hoi c3
  refine⟨hW3,hWi,hWs,agi,kG.2 ⟨by rw[hb.getD hi];exact c1,oi,hoi,λe he hbd=>?_⟩⟩
  have h1:=ali he hbd
  have h2:Nat.testBit (dH oi&&&L) e.on=true:=by rw[c2];exact h1
  rw[dR,h1] at h2
  have h3:Nat.testBit L e.on=true:=by simpa using h2
  by_cases hl:e.on<ops.size
  ·rw[hb.getD hl];exact h3
  ·rw[Nat.testBit_lt_two_pow (pn hL2 (sZ (by decide) (by omega)))] at h3
   cases h3
 cases l with
 |done=>simp only[qe] at ho;have hr:=aBq hb (aw ho);exact⟨λ_=>hQ a w ⟨S,e,h⟩,λi hi=>by rw[hr] at hi;cases hi⟩
 |own _ _=>exact abH.elim
 |cut _ _=>exact abH.elim
 |fz _ _=>exact abH.elim
 |any q t=>
  simp only[qe,ai] at ho
  obtain⟨hc,hot⟩:=ho
  have hc0:=hc
  unfold au0 at hc
  simp only[ai,b8,aO] at hc
  obtain⟨⟨⟨xB,IB⟩,alk⟩,abI⟩:=hc
  have hpw:=Sm.1 alk
  have get:∀ i∈q,∃ oi,ops[i]?=some oi/\i<ops.size:=λi hi=>by
   have h1:i<ops.size:=pn (sG _) (bH (IB i hi).1.1.1)
   exact⟨ops[i],dw h1,h1⟩
  have unl:∀ i∈q,Nat.testBit L i=false:=λi hi=>(IB i hi).1.1.2
  -- the first is ready
  obtain⟨i0,q0,rfl⟩:∃ i0 q0,q=i0::q0:=by
   cases q with
   |nil=>simp at xB
   |cons i0 q0=>exact⟨i0,q0,rfl⟩
  obtain⟨oi0,abJ,hi0⟩:=get i0 (by simp)
  have hd0:=abI
  simp only[Is,ai] at hd0
  have hd1:=hd0.1
  rw[bR,bK,abJ] at hd1
  simp only[aS] at hd1
  obtain⟨_,_,_,_,hr0⟩:=facts i0 oi0 abJ (unl i0 (by simp)) (aw hd1) (aw (IB i0 (by simp)).1.2)
  refine⟨λhx=>(by rw[hx] at hr0;cases hr0),λj hj=>?_⟩
  obtain⟨j1,oj,JV,j3⟩:=kG.1 hj
  have Np:=(cz.1 JV).1
  have Sn:∀ i∈i0::q0,j≠i->Nat.testBit (dG i (ops.toList.map dH) 0 0) j=false:=λi hi HE=>by
   cases hw:Nat.testBit (dG i (ops.toList.map dH) 0 0) j with
   |false=>rfl
   |true=>
    exfalso
    obtain⟨oi,hoi,hil⟩:=get i hi
    obtain⟨w3,_,ws,wlt⟩:=alj i oi hoi (aw (IB i hi).1.2)
    obtain⟨e,he,hbd,h6⟩:=ws j oj JV hw HE
    have h7:=j3 e he hbd
    rw[hb.getD (wlt _ h6),w3 _ h6] at h7
    cases h7
  have hjq:j∈i0::q0:=by
   refine cd λhnj=>?_
   have hz:=aw (IB i0 (by simp)).2
   have h4:Nat.testBit (2^ops.size - 1^^^(dG i0 (ops.toList.map dH) 0 0|||L|||qG (i0::q0))) j=false:=by rw[hz];simp
   rw[nP,gB,bp,bp,zg,Sn i0 (by simp) (λe=>hnj (by simp[e]))] at h4
   rw[hb.getD Np] at j1
   rw[j1] at h4
   simp[Np,hnj] at h4
  obtain⟨p,r,hpr⟩:=List.append_of_mem hjq
  rw[hpr] at hc0 hpw abI IB Sn unl e hn
  clear hd0 hd1 hr0 hjq get
  have alm:∀ x∈p,∃ ox,ops[x]?=some ox/\aep ops ox oj=true:=λx hx=>by
   obtain⟨m,ox,oj',h1,h2,h3,h4,h5⟩:=(fk.1 hpw).2.2 x hx j (by simp)
   rw[JV] at h3
   injection h3 with h3
   subst h3
   refine⟨ox,h2,h5.resolve_left λhm=>?_⟩
   rw[bR,bK,JV] at h1
   simp only[aS,ah] at h1
   subst h1
   obtain⟨e,he,hbd,rfl⟩:=Zd hm
   have h7:=j3 e he hbd
   have hxl:=(cz.1 h2).1
   rw[hb.getD hxl,unl _ (by simp[hx])] at h7
   cases h7
  simp only[kj] at e
  have e2:=aex hO.det JV p r alm e
  unfold J7 at e2
  rw[JV] at e2
  simp only at e2
  cases gj:C5 O ops S oj with
  |false=>rw[gj] at e2;cases e2
  |true=>
  rw[gj] at e2
  simp only[ab] at e2
  obtain⟨σ,h⟩:=h
  refine mK (λa' w' h'=>?_) (Ur hT hO h e2)
  obtain⟨⟨S',k1,k2⟩,k3⟩:=h'
  have hjn:j∉p++r:=λhx=>by
   rw[fk,bZ] at hpw
   rcases bd.1 hx with hx |hx
   ·obtain⟨_,_,_,_,_,_,h4,_⟩:=hpw.2.2 j hx j (by simp);exact h4 rfl
   ·obtain⟨_,_,_,_,_,_,h4,_⟩:=hpw.2.1.1 j hx;exact h4 rfl
  have aiA:L|||qG (p++j::r)=L|||2^j|||qG (p++r):=k9 λk=>by
   rw[bp,bp,bp,zg,zg,w5]
   have hm:decide (k∈p++j::r)=(decide (j=k)||decide (k∈p++r)):=by
    rw[←Bool.decide_or]
    apply iq.2
    simp only[bd,aV]
    constructor
    ·rintro(h |h |h)
     ·exact .inr (.inl h)
     ·exact .inl h.symm
     ·exact .inr (.inr h)
    ·rintro(h |h |h)
     ·exact .inr (.inl h.symm)
     ·exact .inl h
     ·exact .inr (.inr h)
   rw[hm,Bool.or_assoc]
  refine⟨λhad=>?_,?_⟩
  ·simp only[JV] at had
   exact k3 oj JV had
  ·have aln:qe hh.tab O ops (ops.toList.map dH) (2^ops.size - 1) (L|||2^j|||qG (p++r)) t=true:=by rw[←aiA,←hpr];exact hot
   cases hpe:p++r with
   |nil=>
    rw[hpe] at k1 aln
    simp only[J7] at k1
    refine ih _ t (by simpa[qG] using aln) (hb.set Np) ?_ k1 k2
    simp only[OT.len,au,an] at hn
    omega
   |cons z zs=>
    refine ih (L|||2^j) (.any (p++r) t) ?_ (hb.set Np) ?_ k1 k2
    ·simp only[qe,ai]
     refine⟨?_,aln⟩
     unfold au0
     simp only[ai,b8,aO]
     refine⟨⟨⟨by rw[hpe];rfl,λi hi=>?_⟩,Sm.2 (hpw.sublist (by simp))⟩,abG p r abI⟩
     have hi':i∈p++j::r:=by simp only[bd,aV] at hi ⊢;exact hi.imp id .inr
     have PM:j≠i:=λe=>hjn (by rw[e];exact hi)
     obtain⟨⟨⟨m1,m2⟩,m3⟩,m4⟩:=IB i hi'
     refine⟨⟨⟨m1,?_⟩,?_⟩,?_⟩
     ·rw[bp,m2,w5];simp[PM]
     ·have hz:dG i (ops.toList.map dH) 0 0&&&(L|||2^j)=0:=k9 λk=>by
       have hk:Nat.testBit (dG i (ops.toList.map dH) 0 0&&&L) k=false:=by rw[aw m3];simp
       rw[dR] at hk
       rw[dR,bp,w5,vm]
       by_cases hkj:j=k
       ·subst hkj
        rw[Sn i hi' PM]
        rfl
       ·simp only[hkj,zf,AO]
        exact hk
      rw[hz];rfl
     ·have hz:=aw m4
      have:dG i (ops.toList.map dH) 0 0|||(L|||2^j)|||qG (p++r)=dG i (ops.toList.map dH) 0 0|||L|||qG (p++j::r):=by rw[oh,←aiA,oh]
      rw[this]
      exact m4
    ·simp only[OT.len,au,an] at hn ⊢
     omega
 |par q ds t=>
  simp only[qe,ai] at ho
  obtain⟨hc,hot⟩:=ho
  have hc0:=hc
  unfold au1 at hc
  simp only[ai,b8,aO] at hc
  obtain⟨⟨⟨⟨xB,IB⟩,alk⟩,abI⟩,alo⟩:=hc
  have hpw:=KU.1 alk
  have get:∀ i∈q,∃ oi,ops[i]?=some oi/\i<ops.size:=λi hi=>by
   have h1:i<ops.size:=pn (sG _) (bH (IB i hi).1.1.1)
   exact⟨ops[i],dw h1,h1⟩
  have unl:∀ i∈q,Nat.testBit L i=false:=λi hi=>(IB i hi).1.1.2
  -- the first is ready
  obtain⟨i0,q0,rfl⟩:∃ i0 q0,q=i0::q0:=by
   cases q with
   |nil=>simp at xB
   |cons i0 q0=>exact⟨i0,q0,rfl⟩
  obtain⟨oi0,abJ,hi0⟩:=get i0 (by simp)
  have hd0:=abI
  simp only[Is,ai] at hd0
  have hd1:=hd0.1
  rw[bR,bK,abJ] at hd1
  simp only[aS] at hd1
  obtain⟨hW3,hWi,hWs,agi,hr0⟩:=facts i0 oi0 abJ (unl i0 (by simp)) (aw hd1) (aw (IB i0 (by simp)).1.2)
  have side:∀ x∈i0::q0,∀ ox,ops[x]?=some ox->MH ox.op=false:=λx hx ox hox=>by
   have:=alo x hx
   rw[hox] at this
   simpa only[b8] using this
  -- those that wait for none that is ready
  have Sn:∀ j,j∈Region.ready .any ops listed->∀ i∈i0::q0,j≠i->Nat.testBit (dG i (ops.toList.map dH) 0 0) j=false:=λj hj i hi HE=>by
   obtain⟨j1,oj,JV,j3⟩:=kG.1 hj
   cases hw:Nat.testBit (dG i (ops.toList.map dH) 0 0) j with
   |false=>rfl
   |true=>
    exfalso
    obtain⟨oi,hoi,hil⟩:=get i hi
    obtain⟨w3,_,ws,wlt⟩:=alj i oi hoi (aw (IB i hi).1.2)
    obtain⟨e,he,hbd,h6⟩:=ws j oj JV hw HE
    have h7:=j3 e he hbd
    rw[hb.getD (wlt _ h6),w3 _ h6] at h7
    cases h7
  -- when one of them is done
  have tail:∀ (p r:List Nat) (j:Nat) (oj:Oper),ops[j]?=some oj->i0::q0=p++j::r->j∈Region.ready .any ops listed->∀ {S':St} {a':Act} {w':World},(bif Ir (ds.filter λd=>Oj hh.tab d oj) S' then J6 hh O ops (p++r) S' (λS1=>kj hh O ops t S1 K) else none)=some ret->Rel w0 W0 Z H S' a' w'->
    wpE P ops Q (λj=>match ops[j]? with |some o=>ZF O o.op |none=>false) n (listed.setIfInBounds j true) a' w':=by
   intro p r j oj JV hpr hjr S' a' w' k1 k2
   have hwj:Ir (ds.filter λd=>Oj hh.tab d oj) S'=true:=by
    cases hq:Ir (ds.filter λd=>Oj hh.tab d oj) S' with
    |true=>rfl
    |false=>rw[hq] at k1;cases k1
   rw[hwj,ab] at k1
   have Np:j<ops.size:=by
    obtain⟨_,oj,JV,_⟩:=kG.1 hjr
    exact(cz.1 JV).1
   have hnw:=Sn j hjr
   rw[hpr] at hpw abI IB alo hn hnw
   have hjn:j∉p++r:=λhx=>by
    rw[fk,bZ] at hpw
    rcases bd.1 hx with hx |hx
    ·obtain⟨_,_,_,_,h4,_⟩:=hpw.2.2 j hx j (by simp);exact h4 rfl
    ·obtain⟨_,_,_,_,h4,_⟩:=hpw.2.1.1 j hx;exact h4 rfl
   have aiA:L|||qG (p++j::r)=L|||2^j|||qG (p++r):=k9 λk=>by
    rw[bp,bp,bp,zg,zg,w5]
    have hm:decide (k∈p++j::r)=(decide (j=k)||decide (k∈p++r)):=by
     rw[←Bool.decide_or]
     apply iq.2
     simp only[bd,aV]
     constructor
     ·rintro(h |h |h)
      ·exact .inr (.inl h)
      ·exact .inl h.symm
      ·exact .inr (.inr h)
     ·rintro(h |h |h)
      ·exact .inr (.inl h.symm)
      ·exact .inl h
      ·exact .inr (.inr h)
    rw[hm,Bool.or_assoc]
   have aln:qe hh.tab O ops (ops.toList.map dH) (2^ops.size - 1) (L|||2^j|||qG (p++r)) t=true:=by rw[←aiA,←hpr];exact hot
   cases hpe:p++r with
   |nil=>
    rw[hpe] at k1 aln
    simp only[J6] at k1
    refine ih _ t (by simpa[qG] using aln) (hb.set Np) ?_ k1 k2
    simp only[OT.len,au,an] at hn
    omega
   |cons z zs=>
    have aBr:Lj hh.tab ops (ops.toList.map dH) (ds.filter λd=>vD (R6 d) S' 0) (p++r) (p++r)=true:=KU.2 ((hpw.sublist (l₁:=p++r) (by simp)).imp_of_mem λ{x y} hx hy hr=>by
     obtain⟨ox,oy,h1,h2,h3,h4,h5⟩:=hr
     refine⟨ox,oy,h1,h2,h3,h4,h5.imp id λhc=>akZ (λd hd=>?_) hc⟩
     obtain⟨hd1,hd2⟩:=dD.1 hd
     have xB:∀ z∈p++r,j≠z:=λz hz e=>hjn (e▸hz)
     have mI:∀ z∈p++r,z∈p++j::r:=λz hz=>by simp only[bd,aV] at hz ⊢;exact hz.imp id .inr
     have hk:=aeF hd2 (z:=j) (by simp) (xB x hx) (xB y hy) (hnw x (mI x hx) (xB x hx)) (hnw y (mI y hy) (xB y hy)) JV
     exact dD.2 ⟨dD.2 ⟨hd1,aO.1 hwj d (dD.2 ⟨hd1,hk⟩)⟩,aqr mI hd2⟩)
    refine ih (L|||2^j) (.par (p++r) (ds.filter λd=>vD (R6 d) S' 0) t) ?_ (hb.set Np) ?_ (show(bif Ir (ds.filter λd=>vD (R6 d) S' 0) S' then _ else none)=_ by
     rw[show Ir (ds.filter λd=>vD (R6 d) S' 0) S'=true from aO.2 λd hd=>(dD.1 hd).2]
     exact k1) k2
    ·simp only[qe,ai]
     refine⟨?_,aln⟩
     unfold au1
     simp only[ai,b8,aO]
     refine⟨⟨⟨⟨by rw[hpe];rfl,λi hi=>?_⟩,aBr⟩,abG p r abI⟩,λi hi=>alo i (by simp only[bd,aV] at hi ⊢;exact hi.imp id .inr)⟩
     have hi':i∈p++j::r:=by simp only[bd,aV] at hi ⊢;exact hi.imp id .inr
     have PM:j≠i:=λe=>hjn (by rw[e];exact hi)
     obtain⟨⟨⟨m1,m2⟩,m3⟩,m4⟩:=IB i hi'
     refine⟨⟨⟨m1,?_⟩,?_⟩,?_⟩
     ·rw[bp,m2,w5];simp[PM]
     ·have hz:dG i (ops.toList.map dH) 0 0&&&(L|||2^j)=0:=k9 λk=>by
       have hk:Nat.testBit (dG i (ops.toList.map dH) 0 0&&&L) k=false:=by rw[aw m3];simp
       rw[dR] at hk
       rw[dR,bp,w5,vm]
       by_cases hkj:j=k
       ·subst hkj
        rw[hnw i hi' PM]
        rfl
       ·simp only[hkj,zf,AO]
        exact hk
      rw[hz];rfl
     ·rw[bo] at m4 ⊢
      refine m4.imp (λm4=>?_) λm4=>?_
      ·have:dG i (ops.toList.map dH) 0 0|||(L|||2^j)|||qG (p++r)=dG i (ops.toList.map dH) 0 0|||L|||qG (p++j::r):=by rw[oh,←aiA,oh]
       rw[this]
       exact m4
      ·unfold ap9 at m4 ⊢
       split at m4
       case h_2=>cases m4
       rename_i oi hoi
       rw[ai] at m4 ⊢
       refine⟨m4.1,Us _ _ λk ok hk ayR=>A3 _ _ m4.2 k ok hk ?_⟩
       rw[nP,dR,bp,bp] at ayR ⊢
       rw[bp] at ayR
       revert ayR
       cases Nat.testBit (2^ops.size - 1) (0+k)<;>cases Nat.testBit (dG i (ops.toList.map dH) 0 0) (0+k)<;>cases Nat.testBit L (0+k)<;>cases Nat.testBit (dH oi) (0+k)<;>simp
    ·simp only[OT.len,au,an] at hn ⊢
     omega
  simp only[kj] at e
  cases hwh:Ir ds S with
  |false=>rw[hwh] at e;cases e
  |true=>
  rw[hwh] at e
  simp only[ab] at e
  rcases(bo _ _).mp (IB i0 (by simp)).2 with hz |hz
  rotate_left
  ·-- the first may always go first
   unfold ap9 at hz
   rw[abJ] at hz
   simp only[ai] at hz
   obtain⟨hq,hap⟩:=hz
   have s2:=side i0 (by simp) oi0 abJ
   have e2:cV hh O ops i0 S (λS1=>bif Ir (ds.filter λd=>Oj hh.tab d oi0) S1 then J6 hh O ops ([]++q0) S1 (λS1=>kj hh O ops t S1 K) else none)=some ret:=by
    simp only[J6] at e
    obtain⟨X,x1,x3,x2⟩:=abf hO.det abJ s2 e
    rw[x1,Iv.2 λd hd=>x2 d (dD.1 hd).2 (Iv.1 hwh d (dD.1 hd).1)]
    exact x3
   obtain⟨σ,h⟩:=h
   obtain⟨v,hy,S',k1,k2⟩:=aiz hT h abJ hq e2
   refine abE abJ (qK abD) (λc a w hx=>absurd hx (hQp _ _ _)) (D:=λj=>Nat.testBit (dG i0 (ops.toList.map dH) 0 0) j) hWi hWs n listed a w (λj hd=>?_) (λj oj JV hd hun=>?_) hr0 hy (tail [] q0 i0 oi0 abJ rfl hr0 k1 k2)
   ·rw[hb.getD (agi j hd)];exact hW3 j hd
   ·have Np:=(cz.1 JV).1
    refine A3 ops.toList 0 hap j oj (by rw[bK];exact JV) ?_
    rw[hb.getD Np] at hun
    try simp only at hd
    have haf:Nat.testBit (dH oi0) j=false:=by
     cases hx:Nat.testBit (dH oi0) j with
     |false=>rfl
     |true=>
      exfalso
      have h2:Nat.testBit (dH oi0&&&L) j=true:=by rw[aw hd1];exact hx
      rw[dR,hx,hun] at h2
      cases h2
    rw[aW,nP,dR,gB,bp,bp,hd,hun,haf]
    simp[Np]
  refine⟨λhx=>(by rw[hx] at hr0;cases hr0),λj hj=>?_⟩
  obtain⟨j1,oj,JV,j3⟩:=kG.1 hj
  have Np:=(cz.1 JV).1
  have hjq:j∈i0::q0:=by
   refine cd λhnj=>?_
   have hz:=aw hz
   have h4:Nat.testBit (2^ops.size - 1^^^(dG i0 (ops.toList.map dH) 0 0|||L|||qG (i0::q0))) j=false:=by rw[hz];simp
   rw[nP,gB,bp,bp,zg,Sn j hj i0 (by simp) (λe=>hnj (by simp[e]))] at h4
   rw[hb.getD Np] at j1
   rw[j1] at h4
   simp[Np,hnj] at h4
  obtain⟨p,r,hpr⟩:=List.append_of_mem hjq
  have hnd:∀ x∈p,x∈i0::q0:=λx hx=>by rw[hpr];simp[hx]
  have ayS:=hpw
  rw[hpr] at ayS
  have hpj:∀ x∈p,aqq hh.tab ops (ops.toList.map dH) ds (p++j::r) x j:=λx hx=>(fk.1 ayS).2.2 x hx j (by simp)
  have alm:∀ x∈p,∃ ox,ops[x]?=some ox/\MH ox.op=false/\TR (ds.filter (afT hh.tab ops (ops.toList.map dH) (p++j::r) x j)) ox oj=true/\∀ d∈ds.filter (afT hh.tab ops (ops.toList.map dH) (p++j::r) x j),cH (R6 d) S:=λx hx=>by
   obtain⟨ox,oj',h2,h3,h4,h6,h5⟩:=hpj x hx
   rw[JV] at h3
   injection h3 with h3
   subst h3
   refine⟨ox,h2,side x (hnd x hx) ox h2,h5.resolve_left λhm=>?_,λd hd=>Iv.1 hwh d (dD.1 hd).1⟩
   rw[Sn j hj x (hnd x hx) (pz h4)] at hm
   cases hm
  have Rw:p.Pairwise (λy x=>∀ d∈ds.filter (afT hh.tab ops (ops.toList.map dH) (p++j::r) x j),∀ oy,ops[y]?=some oy->Oj hh.tab d oy=true):=(fk.1 ayS).1.imp_of_mem λ{y x} hy hx hr d hd oy hoy=>by
   obtain⟨_,_,_,_,h1,h2,_⟩:=hr
   obtain⟨_,_,_,_,h3,h4,_⟩:=hpj y hy
   exact aeF (dD.1 hd).2 (by simp[hy]) h1 h3 h2 h4 hoy
  have e':=e
  rw[hpr] at e'
  have e3:=abg hO.det JV p r alm Rw e'
  have sj2:=side j hjq oj JV
  have e2:cV hh O ops j S (λS1=>bif Ir (ds.filter λd=>Oj hh.tab d oj) S1 then J6 hh O ops (p++r) S1 (λS1=>kj hh O ops t S1 K) else none)=some ret:=by
   obtain⟨X,x1,x3,x2⟩:=abf hO.det JV sj2 e3
   rw[x1,Iv.2 λd hd=>x2 d (dD.1 hd).2 (Iv.1 hwh d (dD.1 hd).1)]
   exact x3
  obtain⟨σ,h⟩:=h
  refine mK (λa' w' h'=>?_) (Ur hT hO h e2)
  obtain⟨⟨S',k1,k2⟩,k3⟩:=h'
  refine⟨λhad=>?_,tail p r j oj JV hpr hj k1 k2⟩
  simp only[JV] at had
  exact k3 oj JV had
 |one i l=>
 simp only[qe,ai] at ho;obtain⟨hc,ho⟩:=ho;unfold ap8 at hc;split at hc;case h_2=>cases hc
 rename_i m oi hm hoi;have hi:i<ops.size:=(cz.1 hoi).1;rw[bR,bK,hoi] at hm;simp only[aS,ah] at hm;subst hm;simp only[ai,b8] at hc;obtain⟨⟨⟨c1,c2⟩,c3⟩,c4⟩:=hc;have c2:=aw c2;have c3:=aw c3;have hn':l.len<=n:=by simp only[OT.len] at hn;omega
 obtain⟨hW3,hWi,hWs,agi,agj⟩:=facts i oi hoi c1 c2 c3;rw[bo] at c4;have ah7:∀ j,j<ops.size->Nat.testBit (2^ops.size - 1^^^(dG i (ops.toList.map dH) 0 0|||L)) j=!(Nat.testBit (dG i (ops.toList.map dH) 0 0) j||Nat.testBit L j):=λj hj=>by rw[nP,gB,bp];simp[hj]
 simp only[kj] at e;obtain⟨σ,h⟩:=h;by_cases c0:Nat.beq (2^ops.size - 1^^^(dG i (ops.toList.map dH) 0 0|||L)) 0=true
 ·have hz:=aw c0;refine⟨λhx=>(by rw[hx] at agj;cases agj),λj hj=>?_⟩;have HE:j=i:=by
   refine cd λHE=>?_;obtain⟨h1,oj,h2,h3⟩:=kG.1 hj;have Np:=(cz.1 h2).1;have h4:=ah7 j Np;rw[hz,vm] at h4;rw[hb.getD Np] at h1;rw[h1] at h4;have h5:Nat.testBit (dG i (ops.toList.map dH) 0 0) j=true:=by
    cases hx:Nat.testBit (dG i (ops.toList.map dH) 0 0) j with
    |true=>rfl
    |false=>rw[hx] at h4;cases h4
   obtain⟨e,he,hbd,h6⟩:=hWs j oj h2 h5 HE;have h7:=h3 e he hbd;rw[hb.getD (agi _ h6),hW3 _ h6] at h7;cases h7
  subst HE;refine mK (λa' w' h'=>?_) (Ur hT hO h e);obtain⟨⟨S',k1,k2⟩,k3⟩:=h';refine⟨λhad=>?_,ih _ l ho (hb.set hi) hn' k1 k2⟩;simp only[hoi] at had;exact k3 oi hoi had
 ·rw[bo] at c4
  rcases c4 with c4 |c4
  rotate_left
  ·rw[ai] at c4
   obtain⟨hq,hap⟩:=c4
   obtain⟨v,hy,S',k1,k2⟩:=aiz hT h hoi hq e
   refine abE hoi (qK abD) (λc a w hx=>absurd hx (hQp _ _ _)) (D:=λj=>Nat.testBit (dG i (ops.toList.map dH) 0 0) j) hWi hWs n listed a w (λj hd=>?_) (λj oj JV hd hun=>?_) agj hy (ih _ l ho (hb.set hi) hn' k1 k2)
   ·rw[hb.getD (agi j hd)];exact hW3 j hd
   ·have Np:=(cz.1 JV).1
    have h4:=ah7 j Np
    rw[hb.getD Np] at hun
    try simp only at hd
    rw[hd,hun] at h4
    exact A3 ops.toList 0 hap j oj (by rw[bK];exact JV) (by rw[aW];exact h4)
  have c4:=c4.resolve_left c0
  rw[ai,ai,b8] at c4
  obtain⟨hq,hn0,hap⟩:=c4
  obtain⟨v,hy,S',k1,k2⟩:=arf hT h hoi hq hn0 e
  refine apd hoi (qK abD) (λc a w hx=>absurd hx (hQp _ _ _)) (D:=λj=>Nat.testBit (dG i (ops.toList.map dH) 0 0) j) hWi hWs n listed a w (λj hd=>?_) (λj oj JV hd hun=>?_) agj hy (ih _ l ho (hb.set hi) hn' k1 k2)
  ·rw[hb.getD (agi j hd)];exact hW3 j hd
  ·have Np:=(cz.1 JV).1
   have h4:=ah7 j Np
   rw[hb.getD Np] at hun
   try simp only at hd
   rw[hd,hun] at h4
   have:=Ry ops.toList 0 hap j oj (by rw[bK];exact JV) (by rw[aW];exact h4)
   simp only[JV]
   exact this
theorem avl (hT:ke P hh.tab=true) (hO:LD Γ P O w0 W0) (hQ:∀ a w,ad6 w0 W0 Z H K ret a w->Q .normal a w) (hQp:∀ c a w,¬Q (.panic c) a w) (hl:ayp hh.tab O ops l=true) (e:kj hh O ops l S K=some ret) (h:Rel w0 W0 Z H S a w): wpAny P .any ops Q ops.size (Array.replicate ops.size false) a w:=by unfold ayp at hl;rw[ai,ai] at hl;obtain⟨⟨abD,hlen⟩,ho⟩:=hl;have hb:ad7 ops (Array.replicate ops.size false) 0:=⟨by simp,λj hj=>by simp[hj]⟩;exact anz _ (arh hT hO hQ hQp abD ops.size 0 l ho hb (bH hlen) e h)
end Go.Pv
namespace Go.Pv
open List Int IntKind
variable {Γ:Gl} {P:Program} {w w':World} {A A' Wr:Nat->Prop} {H:Nat->Value} {tm Nj:Nat->Value} {S S' S1:St} {σ eK lR:Nat->Option Nat} {w0:World} {W0 Z:Nat->Prop} {a:Act} {own:Nat->Prop} {v:Value} {Θ:nh} {dst:Option Nat} {O:vi} {hh:Hint} {Q:Exit->Act->World->Prop} {ret:jD} {ops:Array Oper}
theorem aeX (h:Rel w0 W0 Z H S a w) (e:hh.clean key S=some S1):Rel w0 W0 Z H S1 a w:=by
 unfold Hint.clean at e;split at e;case h_2=>cases e
 exact Ka h e
theorem anA (h:Rel w0 W0 Z H S a w) {key:Nat} {K:Ks} {e:Ex} (he:hh.nc key K e S=some ret):∃ S1,K e S1=some ret/\Rel w0 W0 Z H S1 a w:=by
 unfold Hint.nc at he;split at he;case h_2=>cases he
 split at he;case h_2=>cases he
 rename_i S1 h1;exact⟨S1,he,Ka h h1⟩
theorem Ze (e:hh.clean key S=some S1):∃ ks x,AN hh.loops key=some ks/\S1=shape ks x:=by
 unfold Hint.clean at e;split at e;case h_2=>cases e
 rename_i ks Xd;unfold J4 at e;cases hk:wU ks ks with
 |false=>rw[hk] at e;cases e
 |true=>
 rw[hk] at e;simp only[ab] at e;split at e;case h_2=>cases e
 rename_i x _;injection e with e;exact⟨ks,x,Xd,e.symm⟩
def Ex.out:Ex->Exit
 | .n=>.normal | .x id=>.exit id | .r=>.ret
def Sp (P:Program) (c:Code) (Q:Exit->Act->World->Prop) (a:Act) (w:World):Prop:=∀ (b:Frame) (k:List Item) (cs:List Frame),∃ e a' w',Q e a' w'/\Arrives P (lone (b.at a (.code c::.inLoop c::k)) cs w) b k cs e a' w'
theorem Sp.wp (h:Sp P c Q a w):(Code.loop c).wp P Q a w:=λb k cs=>by obtain⟨e,a',w',hq,aiB⟩:=h b k cs;exact⟨e,a',w',hq,.of_steps (.one step_loop) aiB⟩
theorem Sp.round (h:c.wp P (Exit.then (Sp P c Q) Q) a w):Sp P c Q a w:=λb k cs=>by
 obtain⟨e,ari,arj,hq,aiB⟩:=h b (.inLoop c::k) cs;cases e with
 |normal=>obtain⟨aDR,aDS,aDT,aBs,avm⟩:=hq b k cs;exact⟨aDR,aDS,aDT,aBs,.of_steps (Steps.trans aiB (.one step_inLoop)) avm⟩
 |exit id=>exact⟨_,ari,arj,hq,.pass (x:=.inLoop c) rfl (λ_ _=>.inl (by simp)) aiB⟩
 |goto l=>exact⟨_,ari,arj,hq,.pass (x:=.inLoop c) rfl (λ_ _=>.inl (by simp)) aiB⟩
 |ret=>exact⟨_,ari,arj,hq,.pass (x:=.inLoop c) rfl (λ_ _=>.inl (by simp)) aiB⟩
 |panic ch=>exact⟨_,ari,arj,hq,.pass (x:=.inLoop c) rfl (λ_ _=>.inl (by simp)) aiB⟩
 |outgrown=>exact⟨_,ari,arj,hq,.pass (x:=.inLoop c) rfl (λ_ _=>.inl (by simp)) aiB⟩
def cY:Code->List Code
 | .seq a b=>cY a++cY b
 | .cond _ a b=>cY a++cY b
 | .block _ c=>cY c
 | .loop c=>c::cY c
 |_=>[]
def ark (P:Program) (hh:Hint) (w0:World) (W0 Z:Nat->Prop) (H:Nat->Value) (ret:jD) (L:Nat->St->Ks->aa) (c:Code):Prop:=∀ (S:St) (K:Ks) (Q:Exit->Act->World->Prop) (a:Act) (w:World),(∃ ks x,AN hh.loops (keyOf c)=some ks/\S=shape ks x)->L (keyOf c) S (hh.nc (keyOf c) K)=some ret->Rel w0 W0 Z H S a w->(∀ e S a w,K e S=some ret->Rel w0 W0 Z H S a w->Q e.out a w)->(∀ c a w,¬Q (.panic c) a w)->Sp P c Q a w
theorem axC (hm:P.follows .mixedOrders=true) (hT:ke P hh.tab=true) (hO:LD Γ P O w0 W0):∀ (c:Code) {S:St} {K:Ks} {Q:Exit->Act->World->Prop} {a:Act} {w:World},py hh O c=true-> (∀ c'∈cY c,ark P hh w0 W0 Z H ret L c')->pe hh O L c S K=some ret->Rel w0 W0 Z H S a w->(∀ e S a w,K e S=some ret->Rel w0 W0 Z H S a w->Q e.out a w)->(∀ c a w,¬Q (.panic c) a w)->c.wp P Q a w:=by
 intro c;induction c with
 |skip=>intro S K Q a w Oa hL e h hQ hQp;exact wp_skip (hQ .n S a w e h)
 |seq x y ihx ihy=>
  intro S K Q a w Oa hL e h hQ hQp;simp only[pe] at e;simp only[py,ai] at Oa;refine wp_seq (ihx Oa.1 (λc hc=>hL c (by simp[cY,hc])) e h (λe1 S1 a1 w1 h1 h2=>?_) (λc a w=>hQp c a w));cases e1 with
  |n=>exact ihy Oa.2 (λc hc=>hL c (by simp[cY,hc])) h1 h2 hQ hQp
  |x id=>exact hQ _ _ _ _ h1 h2
  |r=>exact hQ _ _ _ _ h1 h2
 |cond c x y ihx ihy=>
  intro S K Q a w Oa hL e h hQ hQp;simp only[pe] at e;split at e;case h_2=>cases e
  rename_i m q hq;obtain⟨σ,h⟩:=h;obtain⟨cs,h1,h2,_⟩:=qw h hq;have hv:=lO h1 h2;refine wp_cond hv ?_;simp only[py,ai] at Oa;cases q with
  |true=>exact ihx Oa.1 (λc hc=>hL c (by simp[cY,hc])) e ⟨σ,h⟩ hQ hQp
  |false=>exact ihy Oa.2 (λc hc=>hL c (by simp[cY,hc])) e ⟨σ,h⟩ hQ hQp
 |block id c ih=>
  intro S K Q a w Oa hL e h hQ hQp;simp only[pe] at e;refine wp_block (ih (by simpa[py] using Oa) (λc hc=>hL c (by simpa[cY] using hc)) e h (λe1 S1 a1 w1 h1 h2=>?_) (λc a w=>hQp c a w));cases e1 with
  |n=>exact hQ _ _ _ _ h1 h2
  |r=>exact hQ _ _ _ _ h1 h2
  |x id'=>
  simp only[Ex.out,Exit.inBlock];cases hb:Nat.beq id' id with
  |true=>simp only[hb,ab] at h1;rw[aA (aw hb)];exact hQ .n _ _ _ h1 h2
  |false=>simp only[hb,ae] at h1;rw[aq (λe=>by rw[e,bV] at hb;cases hb)];exact hQ (.x id') _ _ _ h1 h2
 |loop c ih=>
 intro S K Q a w Oa hL e h hQ hQp;simp only[pe] at e;split at e;case h_2=>cases e
 rename_i S1 hS1;exact(hL c (by simp[cY]) _ K Q a w (Ze hS1) e (aeX h hS1) hQ hQp).wp
 |exit id=>intro S K Q a w Oa hL e h hQ hQp;exact wp_exit (hQ (.x id) S a w e h)
 |ret=>intro S K Q a w Oa hL e h hQ hQp;exact wp_ret (hQ .r S a w e h)
 |region id ops d=>
  intro S K Q a w Oa hL e h hQ hQp;have ape:∀ a w,ad6 w0 W0 Z H (λS1=>K .n (akH hh.G2 id (aaZ hh.keep S1))) ret a w->Q .normal a w:=λa w ⟨S',h1,h2⟩=>hQ .n _ a w h1 (ait _ (alg _ h2));cases d with
  |false=>
  simp only[pe] at e;split at e;case h_2=>exact wp_region (arc hT hO ape _ e h)
  rename_i l hl;simp only[py,hl,axq] at Oa;split at Oa;case h_2=>cases Oa
  rename_i q hq;rw[abe _ _ Oa] at hq;exact wp_region (aaC hT hO ape l hq e h)
  |true=>
  simp only[pe] at e;split at e;case h_2=>cases e
  rename_i l hl;simp only[py,hl] at Oa;refine wp_region_any hm (avl hT hO ape hQp Oa e ?_);obtain⟨σ,h⟩:=h;refine⟨σ,h.len,h.defers,⟨h.fr.os,h.fr.tape,h.fr.output,h.fr.size,h.fr.block⟩,h.new,h.lt,h.old,λi=>?_⟩;have gy:cR w { w with drawn:=w.drawn+1 } (Av σ Z) (Av σ Z):=⟨λ_ _ _=>rfl,λ_ _ h=>h⟩;exact(h.holds i).kept gy (λg hg _=>⟨rfl,hg⟩) (λs _=>⟨λ_ _ h=>h,rfl,_,h.holds s,λ_ _ _=>rfl⟩)
 |_=>intro S K Q a w Oa hL e h hQ hQp;simp[pe] at e
def C9:Code->Bool
 | .seq a b=>C9 a&&C9 b
 | .cond _ a b=>C9 a&&C9 b
 | .block _ c=>C9 c
 | .loop c=>((cY c).all λc'=>!Nat.beq (keyOf c') (keyOf c))&&C9 c
 |_=>true
theorem arl (hm:P.follows .mixedOrders=true) (hT:ke P hh.tab=true) (hO:LD Γ P O w0 W0) (h0:∀ k S K,Lf 0 k S K=none):∀ (body:Code),py hh O body=true->C9 body=true-> (∀ c∈cY body,∀ (n:Nat) (ks:List Kd) (x:Fu ks) (K:Ks) (r:jD),AN hh.loops (keyOf c)=some ks->Lf (n+1) (keyOf c) (shape ks x) (hh.nc (keyOf c) K)=some r->sF hh O (JU Lf N n (keyOf c)) c (shape ks x) (hh.nc (keyOf c) K)=some r)-> ∀ c∈cY body,∀ (n:Nat),ark P hh w0 W0 Z H ret (Lf n) c:=by
 intro body;induction body with
 |seq x y ihx ihy=>intro ho hk iR c hc n;simp only[py,ai] at ho;simp only[C9,ai] at hk;simp only[cY,bd] at hc iR;exact hc.elim (λhc=>ihx ho.1 hk.1 (λc hc=>iR c (.inl hc)) c hc n) (λhc=>ihy ho.2 hk.2 (λc hc=>iR c (.inr hc)) c hc n)
 |cond _ x y ihx ihy=>intro ho hk iR c hc n;simp only[py,ai] at ho;simp only[C9,ai] at hk;simp only[cY,bd] at hc iR;exact hc.elim (λhc=>ihx ho.1 hk.1 (λc hc=>iR c (.inl hc)) c hc n) (λhc=>ihy ho.2 hk.2 (λc hc=>iR c (.inr hc)) c hc n)
 |block id x ih=>intro ho hk iR c hc n;simp only[py] at ho;simp only[C9] at hk;simp only[cY] at hc iR;exact ih ho hk iR c hc n
 |loop x ih=>
  intro ho hk iR c hc n;simp only[py] at ho;simp only[C9,ai,aO,b8] at hk;simp only[cY,aV] at hc iR;have mI:=ih ho hk.2 (λc hc=>iR c (.inr hc));rcases hc with rfl |hc
  ·induction n with
   |zero=>intro S K Q a w _ e;rw[h0] at e;cases e
   |succ n ihn=>
   intro S K Q a w hs e h hQ hQp;obtain⟨ks,x,Xd,rfl⟩:=hs;have hr:=iR c (.inl rfl) n ks x K ret Xd e;unfold sF at hr;refine Sp.round (axC hm hT hO c ho (λc' hc'=>?_) hr h (λe1 S1 a1 w1 h1 h2=>?_) (λc a w=>hQp c a w))
   ·have hL:JU Lf N n (keyOf c) (keyOf c')=Lf N (keyOf c'):=(by funext S K;unfold JU;rw[hk.1 c' hc'];rfl);intro S K Q a w hs e;rw[hL] at e;exact mI c' hc' N S K Q a w hs e
   cases e1 with
   |n=>
   simp only at h1;split at h1;case h_2=>cases h1
   rename_i S2 hS2;have hL:JU Lf N n (keyOf c) (keyOf c)=Lf n (keyOf c):=by funext S K;unfold JU;rw[bV];rfl
   rw[hL] at h1;exact ihn _ K Q a1 w1 (Ze hS2) h1 (aeX h2 hS2) hQ hQp
   |x id=>obtain⟨S2,h3,h4⟩:=anA h2 h1;exact hQ _ _ _ _ h3 h4
   |r=>obtain⟨S2,h3,h4⟩:=anA h2 h1;exact hQ _ _ _ _ h3 h4
  exact mI c hc n
 |_=>intro _ _ _ c hc;simp[cY] at hc
theorem apf (hO:Ll O) (h0:∀ k S K,Lf 0 k S K=none):∀ (body:Code),rO body=true-> (∀ c∈cY body,∀ (n:Nat) (ks:List Kd) (x:Fu ks) (K:Ks),AN hh.loops (keyOf c)=some ks->Lf (n+1) (keyOf c) (shape ks x) (hh.nc (keyOf c) K)=sF hh O (JU Lf N n (keyOf c)) c (shape ks x) (hh.nc (keyOf c) K))-> ∀ k∈rQ body,∀ n,n=N∨k=keyOf body/\(∃ c,body=.loop c)->aoI hh (Lf n) k:=by
 intro body;induction body with
 |seq a b iha ihb=>
 intro hp iR k hk n hn;simp only[rO,ai] at hp;simp only[rQ,bd] at hk;simp only[cY,bd] at iR;have hn:n=N:=hn.elim id (λh=>by obtain⟨_,c,hc⟩:=h;cases hc);rcases hk with hk |hk
 ·exact iha hp.1 (λc hc=>iR c (.inl hc)) k hk n (.inl hn)
 exact ihb hp.2 (λc hc=>iR c (.inr hc)) k hk n (.inl hn)
 |cond q a b iha ihb=>
 intro hp iR k hk n hn;simp only[rO,ai] at hp;simp only[rQ,bd] at hk;simp only[cY,bd] at iR;have hn:n=N:=hn.elim id (λh=>by obtain⟨_,c,hc⟩:=h;cases hc);rcases hk with hk |hk
 ·exact iha hp.1 (λc hc=>iR c (.inl hc)) k hk n (.inl hn)
 exact ihb hp.2 (λc hc=>iR c (.inr hc)) k hk n (.inl hn)
 |block bid c ih=>intro hp iR k hk n hn;have hn:n=N:=hn.elim id (λh=>by obtain⟨_,c,hc⟩:=h;cases hc);exact ih hp iR k hk n (.inl hn)
 |loop c ih=>
  intro hp iR k hk n _;simp only[rO] at hp;simp only[rQ,aV] at hk;simp only[cY,aV] at iR;have mI:∀ k∈rQ c,aoI hh (Lf N) k:=λk hk=>ih hp (λc' hc'=>iR c' (.inr hc')) k hk N (.inl rfl);have aiw:∀ n,aoI hh (Lf n) (keyOf c):=by
   intro n;induction n with
   |zero=>intro ks x _;exact⟨none,λK=>h0 _ _ _⟩
   |succ n ihn=>
   intro ks x Xd;have e:(λK=>Lf (n+1) (keyOf c) (shape ks x) (hh.nc (keyOf c) K))=λK=>sF hh O (JU Lf N n (keyOf c)) c (shape ks x) (hh.nc (keyOf c) K):=funext λK=>iR c (.inl rfl) n ks x K Xd;have hL:∀ k∈rQ c,aoI hh (JU Lf N n (keyOf c)) k:=λk hk=>by
    intro ks' x' aBt;unfold JU;cases hb:Nat.beq k (keyOf c) with
    |true=>have:=aw hb;subst this;exact ihn ks' x' aBt
    |false=>exact mI k hk ks' x' aBt
   rw[e];unfold sF;refine oO.bind (Y:=λe1 S1 K=>match e1 with
    | .n=>(match hh.clean (keyOf c) S1 with
     |some S2=>JU Lf N n (keyOf c) (keyOf c) S2 (hh.nc (keyOf c) K)
     |none=>none)
    |e1=>hh.nc (keyOf c) K e1 S1) (R7 hO c _ hp hL) λe1 S1=>?_
   cases e1 with
   |n=>
   simp only;split
   ·rename_i S2 hS2;obtain⟨ks2,x2,hk2,rfl⟩:=TT hS2;unfold JU;rw[bV];exact ihn ks2 x2 hk2
   exact oO.none
   |x id=>exact aes hh (keyOf c) _ S1
   |r=>exact aes hh (keyOf c) _ S1
  rcases hk with rfl |hk
  ·exact aiw n
  rename_i hn;rcases hn with rfl |⟨rfl,_⟩
  ·exact mI k hk
  exact aiw n
 |_=>intro _ _ k hk;simp[rQ] at hk
end Go.Pv
namespace Go.Pv
open List Int IntKind
variable {Γ:Gl} {P:Program} {w w':World} {A A' Wr:Nat->Prop} {H:Nat->Value} {tm Nj:Nat->Value} {S S' S1:St} {σ eK lR:Nat->Option Nat} {w0:World} {W0 Z:Nat->Prop} {a:Act} {own:Nat->Prop} {v:Value} {Θ:nh} {dst:Option Nat} {O:vi} {hh:Hint} {Q:Exit->Act->World->Prop} {ret:jD} {ops:Array Oper}
def aiC (a:Act):ResultVar->Sem Value
 | .tmp t=>pure (a.tmps.getD t undef)
 | .cell c t=>do loadVar t (←asAddr (a.tmps.getD c undef))
theorem Zf (hT:ke P Θ=true):∀ (rs:List ResultVar) (j:Nat) {S S1:St} {σ:Nat->Option Nat} {l:List TV},dp σ w0 W0 Z H S a w->KP Θ S rs=some (l,S1)-> ∃ (eK:Nat->Option Nat) (ow:Nat->Prop) (τ:Nat->Nat) (vs:List Value),(dp eK w0 W0 Z H S1 a w/\S1.length=S.length)/\vY σ eK S.length ow/\l.length=rs.length/\(∀ g,ow g->j<=τ g)/\(rs.mapM (aiC a)).run P w=.ok vs w/\vs.length=rs.length/\ ∀ (k:Nat) (b:TV),l[k]?=some b->∃ u cs,vs[k]?=some u/\a7 b.t u cs/\M w (Av σ Z) H b.t b.m b.x cs (λg=>ow g/\τ g=j+k) []
 |[],j,S,S1,σ,l,h,e=>by simp only[KP,ah,aG] at e;obtain⟨rfl,rfl⟩:=e;exact⟨σ,λ_=>False,λ_=>j,[],⟨h,rfl⟩,vY.none _ _,rfl,λ_ h=>h.elim,by simp,rfl,λk b hk=>by simp at hk⟩
 |q::r,j,S,S1,σ,l,h,e=>by
  have key:∃ (b:TV) (l2:List TV) (S2:St) (u:Value) (eK:Nat->Option Nat) (cs:List Value) (ow:Nat->Prop),l=b::l2/\dp eK w0 W0 Z H S2 a w/\KP Θ S2 r=some (l2,S1)/\(aiC a q).run P w=.ok u w/\
     a7 b.t u cs/\M w (Av σ Z) H b.t b.m b.x cs ow []/\vY σ eK S.length ow/\S2.length=S.length:=by
   cases q with
   |tmp t=>
     simp only[KP] at e
     split at e
     case h_2=>cases e
     rename_i b S2 hb
     split at e
     case h_2=>cases e
     rename_i l2 S3 hl
     simp only[ah,aG] at e
     obtain⟨rfl,rfl⟩:=e
     obtain⟨eK,cs,ow,h1,hm,hM,hk,hn⟩:=rX (Θ:=[]) (T:=0) (x:=.tmp t) h rfl hb
     exact⟨b,l2,S2,gV a t,eK,cs,ow,rfl,h1,hl,rfl,hm,hM,hk,hn⟩
   |cell t T=>
     simp only[KP] at e
     split at e
     case h_2=>cases e
     rename_i ty T' tag me x nM
     split at e
     case h_2=>cases e
     rename_i l2 S3 hl
     cases hs:Θ.is T ty with
     |false=>rw[hs] at e;cases e
     |true=>
     rw[hs] at e
     simp only[ab,ah,aG] at e
     obtain⟨rfl,rfl⟩:=e
     have hh:=h.holds t
     rw[nM] at hh
     obtain⟨cs,h1,h2⟩:=hh
     simp only[M] at h2
     rcases h2 with⟨hn,_⟩ |⟨hk,_⟩ |⟨T2,aia,me2,g,cur,e2,rfl,ht,hg,hw,hM⟩
     · simp at hn
     · simp[Md.fu] at hk
     · injection e2 with e2 e2' ayT
       subst e2 e2' ayT
       have hlen:=(rK ty hM).1
       have wc:rowAt w g 0 ty.size=some cur.toList:=by
         rw[eT hw (by rw[←hlen];simp),dX,cB (by omega)]
       obtain⟨u,hu,hmu⟩:=abl (P:=P) hT hs wc
       have hv:gV a t=.pointer (some ⟨g,0,none⟩):=by simpa[a7,isAgg] using h1.symm
       have iD:(aiC a (.cell t T)).run P w=.ok u w:=by
         have h3:=hu w (Ext.refl w)
         simp only[Instr.loadAt,Instr.sureAddr,a6,dk,aX] at h3
         have hv':a.tmps.getD t undef=.pointer (some ⟨g,0,none⟩):=hv
         simp only[aiC,hv',asAddr,a6,dk,aX]
         exact h3
       exact⟨⟨ty,_,x⟩,l2,_,u,_,cur.toList,λg'=>σ g'=some t/\g'≠g,rfl,h.C2 t,hl,iD,hmu,ca (cR.refl _ _) _ (λ_ _ _=>rfl) (λg' dU _=>dU) (λ_ h=>by simp[sub] at h) hM,vY.C2 σ (qF (by rw[nM];exact λe=>by cases e)) (λg' dU=>dU.1),eO _ _ _⟩
  obtain⟨b,l2,S2,u,eK,cs,ow,rfl,h1,hl,iD,hm,hM,hk,hn⟩:=key;obtain⟨lR,Lv,τ,vs,⟨k2,k2'⟩,k3,k4,k5,k6,k6',k7⟩:=Zf hT r (j+1) h1 hl;rw[hn] at k3;have hap:∀ g,ow g->¬Lv g:=λg hg=>hk.apart k3 hg;let τ':Nat->Nat:=λg=>open Classical in if ow g then j else τ g
  refine⟨lR,λg=>ow g∨Lv g,τ',u::vs,⟨k2,by omega⟩,hk.trans k3,by simp[k4],λg hg=>?_,?_,by simp[k6'],λk b' uI=>?_⟩
  ·simp only[τ'];split
   ·exact aR _
   rename_i hx;have:=k5 g (hg.resolve_left hx);omega
  ·rw[sH];simp only[a6,iD,aX,k6,dk]
  cases k with
  |zero=>simp only[aE,ah] at uI;subst uI;exact⟨u,cs,rfl,hm,ca (cR.refl _ _) _ (λ_ _ _=>rfl) (λg hg _=>⟨.inl hg,by simp only[τ',aA hg,dZ]⟩) (λ_ h=>h) hM⟩
  |succ k=>obtain⟨u',kY,q1,q2,q3⟩:=k7 k b' (by simpa using uI);refine⟨u',kY,by simpa using q1,q2,ca ⟨λ_ _ _=>rfl,λg _ hg=>hk.Av.2 hg⟩ _ (λ_ _ _=>rfl) (λg hg _=>⟨.inr hg.1,?_⟩) (λ_ h=>h) q3⟩;simp only[τ'];rw[aq (λhx=>hap g hx hg.1),hg.2];omega
theorem aiD (hv:(fn.results.toList.mapM (aiC a)).run P w=.ok vs w):(results fn a.tmps).run P w=.ok (ant vs) w:=by
 have aBu:∀ vs:List Value,(if h:vs.toArray.size=1 then vs.toArray[0] else Value.tuple vs.toArray)=ant vs:=by
  intro vs
  match vs with
  |[]=>rfl
  |[u]=>rfl
  |u::u'::r=>rw[pA (by simp)];rfl
 unfold results;rw[a6,Array.mapM_eq_mapM_toList];rw[map_eq_pure_bind,a6];erw [hv];simp only[aX,dk,aBu]
theorem ayU {ow:Nat->Prop} (h:aa0 dr b=some c) (hM:M w A H b.t b.m b.x cs ow []):∃ cs,M w A H c.t c.m c.x cs ow []:=by
 unfold aa0 at h;split at h
 ·injection h with h;subst h;exact⟨cs,hM⟩
 ·injection h with h;subst h;simp only[M] at hM;rcases hM with⟨hn,_⟩ |⟨hk,_⟩ |⟨T2,aia,me2,g,cur,e2,rfl,ht,hg,hw,hM⟩
  ·simp at hn
  ·simp[Md.fu] at hk
  injection e2 with e2 e2' ayT;subst e2 e2' ayT;exact⟨cur.toList,ca (cR.refl _ _) _ (λ_ _ _=>rfl) (λg hg _=>hg.1) (λ_ h=>by simp[sub] at h) hM⟩
 cases h
theorem ayV (hm : P.follows .mixedOrders = true) (hT : ke P hh.tab = true) (hS : ayK Γ P O)   (hf : P.funcs[f]? = some fn) (hb : fn.body = some body) (hnm : (fn.name == "runtime.NumGoroutine") = false)
    (Oa:py hh O body=true) (hky:C9 body=true) (h0:∀ k S K,Lf 0 k S K=none)
    (iR:∀ c∈cY body,∀ (n:Nat) (ks:List Kd) (x:Fu ks) (K:Ks) (r:jD),AN hh.loops (keyOf c)=some ks->Lf (n+1) (keyOf c) (shape ks x) (hh.nc (keyOf c) K)=some r->sF hh O (JU Lf N n (keyOf c)) c (shape ks x) (hh.nc (keyOf c) K)=some r)
 (iD:∀ args kf r,run args kf=some r->args.length<=fn.ntmps/\rP hh O (Lf N) fn args kf=some r):anu Γ P f run:=by
  intro args kf ret w σ fC H B hr mI
  obtain⟨hlen,hr⟩:=iD args kf ret hr
  unfold rP at hr
  rw[hb] at hr
  simp only at hr
  have ayW : ¬ fn.name = "runtime.NumGoroutine" := by simpa using hnm
  refine .inl ⟨by simp[callFunc,hf,ayW,hb],calls_of_wp hf hb ?_⟩
  let a0:Act:={ tmps:=fC.toArray++Array.replicate (fn.ntmps - fC.toArray.size) undef,defers:=[] }
  have hO:LD Γ P O w (Own σ):=⟨hS,λg o hg=>⟨λ⟨i,hi⟩=>(by rw[(mI.env g o hg).1] at hi;cases hi),(mI.env g o hg).2⟩⟩
  have hR:dp σ w (Own σ) B H (start fn args) a0 w:=by
    refine⟨?_,rfl,⟨rfl,rfl,rfl,aR _,λ_ _ _=>rfl⟩,λg i hg=>.inr ⟨i,hg⟩,λg i hg=>(mI.lt g i hg).2,mI.old,λi=>?_⟩
    · simp only[start,a0,au,bh,dO,jq,cg,Array.size_replicate,mI.len]
    · have htm:gV a0 i=if h:i<fC.length then fC[i] else undef:=by
        unfold gV
        simp only[a0]
        rw[fp]
        split
        · rename_i hl
          rw[Array.getElem?_append_left (by simpa using hl)]
          simp[hl]
        · rename_i hl
          rw[Array.getElem?_append_right (by simpa using hl),Array.getElem?_replicate]
          split<;>rfl
      have nM:(start fn args).at i=if h:i<args.length then axr args[i] else if i<fn.ntmps then .undef else .dead:=by
        unfold start St.at
        rw[aF]
        split
        · rename_i hl
          rw[dY (by simpa using hl),bR,aU hl]
          rfl
        · rename_i hl
          rw[cL (by simpa using hl),lC]
          simp only[bh]
          by_cases hn:i<fn.ntmps
          · rw[aA (by omega),aA hn];rfl
          · rw[aq (by omega),aq hn];rfl
      rw[nM,htm]
      by_cases hl:i<args.length
      · rw[jn hl,jn (by rw[mI.len];exact hl)]
        obtain⟨v,hv,AI⟩:=mI.ok i args[i] (aU hl)
        rw[aU (by rw[mI.len];exact hl)] at hv
        injection hv with hv
        rw[hv]
        cases hai:args[i] with
        |tv b=>
          rw[hai] at AI
          exact AI
        |fn f' kE=>
          rw[hai] at AI
          obtain⟨vs,v1,v2,v3⟩:=AI
          refine⟨vs,v1,by rw[v2,bh],λj c hj=>?_⟩
          rw[bR] at hj
          cases hc:kE[j]? with
          |none=>rw[hc] at hj;cases hj
          |some c'=>
            rw[hc] at hj
            simp only[aS,ah] at hj
            subst hj
            exact v3 j c' hc
      · rw[pA hl,pA (by rw[mI.len];exact hl)]
        split
        · rfl
        · trivial
  refine axC (Q:=bodyPost P fn _) hm hT hO body Oa (λc hc=>arl hm hT hO h0 body Oa hky iR c hc N) hr ⟨σ,hR⟩ (λe S a1 w1 he aDU=>?_) (λc a w hq=>hq.2.elim)
  obtain⟨eK,h1⟩:=aDU
  have fin:∀ (x:aa),(match KP hh.tab S fn.results.toList with
      |some (l,S1)=>(match hh.nH with
        |none=>kf ⟨l,[]⟩
        |some q=>match S1.at q.1 with
          | .v b []=>(match aa0 q.2 b with
            |some c=>kf ⟨l,[c]⟩
            |none=>none)
          |_=>none)
      |none=>none)=x->x=some ret->a1.defers=[]/\∃ v,(results fn a1.tmps).run P w1=.ok v w1/\∃ rt,kf rt=some ret/\Out B H w w1 σ rt v:=by
    intro x hx TL
    subst hx
    split at TL
    case h_2=>cases TL
    rename_i l S1 hl
    obtain⟨lR,ow,τ,vs,⟨k2,k2'⟩,k3,k4,k5,k6,k6',k7⟩:=Zf hT fn.results.toList 0 h1 hl
    refine⟨h1.defers,_,aiD k6,?_⟩
    cases axD:hh.nH with
    |none=>
      rw[axD] at TL
      refine⟨_,TL,⟨h1.fr,?_⟩⟩
      let nK:Nat->Option Nat:=λg=>open Classical in if ow g then some (τ g) else none
      have ayX:∀ g i,nK g=some i↔ow g/\τ g=i:=λg i=>by
        simp only[nK]
        split
        · rename_i hx;exact⟨λhg=>⟨hx,by injection hg⟩,λhg=>by rw[hg.2]⟩
        · rename_i hx;exact⟨λhg=>(by cases hg),λhg=>absurd hg.1 hx⟩
      refine⟨nK,vs,rfl,by rw[k4,k6'],λg i hg=>?_,λi b hb=>?_,λc hc=>by cases hc⟩
      · obtain⟨j,_,hj⟩:=k3.was g ((ayX g i).1 hg).1
        exact⟨h1.new g j hj,h1.lt g j hj⟩
      · obtain⟨u,cs,u1,u2,u3⟩:=k7 i b hb
        refine⟨u,cs,u1,u2,ca ⟨λ_ _ _=>rfl,λg _ hg=>?_⟩ _ (λ_ _ _=>rfl) (λg hg _=>(ayX g i).2 ⟨hg.1,by rw[hg.2];omega⟩) (λ_ h=>h) u3⟩
        rcases hg with⟨i,hi⟩ |hz
        · obtain⟨j,_,hj⟩:=k3.was g ((ayX g i).1 hi).1
          exact .inl ⟨j,hj⟩
        · exact .inr hz
    |some ql=>
      obtain⟨jl,dr⟩:=ql
      rw[axD] at TL
      simp only at TL
      split at TL
      case h_2=>cases TL
      rename_i bl0 aBv
      split at TL
      case h_2=>cases TL
      rename_i bl hbl
      refine⟨_,TL,⟨h1.fr,?_⟩⟩
      have Np:jl<S.length:=by rw[←k2'];exact qF (by rw[aBv];exact λe=>by cases e)
      let nK:Nat->Option Nat:=λg=>open Classical in if ow g then(if τ g<l.length then some (τ g) else none) else if lR g=some jl then some l.length else none
      have abo:∀ g i,nK g=some i->(ow g/\τ g=i/\i<l.length)∨(¬ow g/\lR g=some jl/\i=l.length):=λg i hg=>by
        simp only[nK] at hg
        split at hg
        · split at hg
          · injection hg with hg;exact .inl ⟨by assumption,hg,by omega⟩
          · cases hg
        · split at hg
          · injection hg with hg;exact .inr ⟨by assumption,by assumption,hg.symm⟩
          · cases hg
      have af9:∀ g i,ow g->τ g=i->i<l.length->nK g=some i:=λg i h1 h2 h3=>by
        simp only[nK,aA h1]
        rw[h2,aA h3]
      have aDV:∀ g,lR g=some jl->nK g=some l.length:=λg hg=>by
        have Qi: ¬ow g:=λhx=>by
          obtain⟨i,hi,AY⟩:=k3.now g hx
          rw[hg] at AY
          injection AY with AY
          omega
        simp only[nK,aq Qi,aA hg]
      have ayY:∀ g i,nK g=some i->∃ j,eK g=some j:=λg i hg=>by
        rcases abo g i hg with⟨hx,_⟩ |⟨_,hx,_⟩
        · obtain⟨j,_,hj⟩:=k3.was g hx;exact⟨j,hj⟩
        · exact(k3.dom g).1 ⟨jl,hx⟩
      refine⟨nK,vs,rfl,by rw[k4,k6'],λg i hg=>?_,λi b hb=>?_,λc hc=>?_⟩
      · obtain⟨j,hj⟩:=ayY g i hg
        exact⟨h1.new g j hj,h1.lt g j hj⟩
      · obtain⟨u,cs,u1,u2,u3⟩:=k7 i b hb
        have hil:i<l.length:=(bO.1 hb).1
        refine⟨u,cs,u1,u2,ca ⟨λ_ _ _=>rfl,λg _ hg=>?_⟩ _ (λ_ _ _=>rfl) (λg hg _=>af9 g i hg.1 (by rw[hg.2];omega) hil) (λ_ h=>h) u3⟩
        rcases hg with⟨i,hi⟩ |hz
        · exact .inl (ayY g i hi)
        · exact .inr hz
      · injection hc with hc
        subst hc
        have hh:=k2.holds jl
        rw[aBv] at hh
        obtain⟨cs,_,hM⟩:=hh
        obtain⟨cs,hM⟩:=ayU hbl hM
        refine⟨cs,ca ⟨λ_ _ _=>rfl,λg _ hg=>?_⟩ _ (λ_ _ _=>rfl) (λg hg _=>aDV g hg) (λ_ h=>h) hM⟩
        rcases hg with⟨i,hi⟩ |hz
        · obtain⟨j,hj⟩:=ayY g i hi
          exact k3.Av.2 (.inl ⟨j,hj⟩)
        · exact .inr hz
  cases e with
  |n=>exact fin _ rfl he
  |r=>exact fin _ rfl he
  |x id=>cases he
end Go.Pv
namespace Go.Pv
open List Int IntKind
@[reducible] def share {α β:Type} (x:α) (k:α->β):β:=k x
inductive AK where
 |v (t:Ty) (m:Md) |fn (f:FuncId) (ts:List Ty)
@[reducible] def Rz:List Ty->Type
 |[]=>Unit
 |t::r=>t.I×Rz r
def D9:(ts:List Ty)->Rz ts->List TV
 |[],_=>[]
 |t::r,x=>⟨t,.k,x.1⟩::D9 r x.2
def aeY:(ts:List Ty)->List TV->Option (Rz ts)
 |[],[]=>some ()
 |t::r,⟨t',m',x⟩::S=>if h:t'=t then(if m'=.k then match aeY r S with
  |some y=>some (h▸x,y)
  |none=>none else none) else none
 |_,_=>none
@[reducible] def fK:List AK->Type
 |[]=>Unit
 | .v t _::r=>t.I×fK r
 | .fn _ ts::r=>Rz ts×fK r
def iS:(l:List AK)->fK l->List Arg
 |[],_=>[]
 | .v t m::r,x=>.tv ⟨t,m,x.1⟩::iS r x.2
 | .fn f ts::r,x=>.fn f (D9 ts x.1)::iS r x.2
def Kb:(l:List AK)->List Arg->Option (fK l)
 |[],[]=>some ()
 | .v t m::r,.tv ⟨t',m',x⟩::S=>if h:t'=t then(if m'=m then match Kb r S with
  |some y=>some (h▸x,y)
  |none=>none else none) else none
 | .fn f ts::r,.fn f' kE::S=>bif Nat.beq f' f then(match aeY ts kE,Kb r S with
  |some y,some z=>some (y,z)
  |_,_=>none) else none
 |_,_=>none
theorem aiE:∀ (ts:List Ty) (S:List TV) {x:Rz ts},aeY ts S=some x->S=D9 ts x
 |[],[],x,_=>rfl
 |[],_::_,x,e=>by simp[aeY] at e
 |_::r,[],x,e=>by simp[aeY] at e
 |t::r,b::S,x,e=>by
  obtain⟨bt,bm,bx⟩:=b;simp only[aeY] at e;split at e;case isFalse=>cases e
  rename_i ht;subst ht;split at e;case isFalse=>cases e
  rename_i hm;subst hm;split at e;case h_2=>cases e
  rename_i y hy;injection e with e;subst e;simp[D9,←aiE r S hy]
theorem uM:∀ (l:List AK) (S:List Arg) {x:fK l},Kb l S=some x->S=iS l x
 |[],[],x,_=>rfl
 |[],_::_,x,e=>by simp[Kb] at e
 | .v _ _::r,[],x,e=>by simp[Kb] at e
 | .fn _ _::r,[],x,e=>by simp[Kb] at e
 | .v _ _::r,.fn _ _::S,x,e=>by simp[Kb] at e
 | .fn _ _::r,.tv _::S,x,e=>by simp[Kb] at e
 | .v t m::r,.tv b::S,x,e=>by
  obtain⟨bt,bm,bx⟩:=b;simp only[Kb] at e;split at e;case isFalse=>cases e
  rename_i ht;subst ht;split at e;case isFalse=>cases e
  rename_i hm;subst hm;split at e;case h_2=>cases e
  rename_i y hy;injection e with e;subst e;simp[iS,←uM r S hy]
 | .fn f ts::r,.fn f' kE::S,x,e=>by
  simp only[Kb] at e;cases hb:Nat.beq f' f with
  |false=>rw[hb] at e;cases e
  |true=>
  rw[hb] at e;simp only[ab] at e;have:=aw hb;subst this;split at e;case h_2=>cases e
  rename_i y z hy hz;injection e with e;subst e;simp[iS,←uM r S hz,←aiE ts kE hy]
theorem KV:∀ (l:List AK) (x:fK l),(iS l x).length=l.length
 |[],_=>rfl
 | .v _ _::r,x=>by simp[iS,KV r x.2]
 | .fn _ _::r,x=>by simp[iS,KV r x.2]
def cX (l:List AK) (F:fK l->(jD->aa)->aa):List Arg->(jD->aa)->aa:=λas kf=>match Kb l as with
 |some x=>F x kf
 |none=>none
def anB (l:List AK) (F:fK l->(jD->aa)->aa) (g:List Arg->(jD->aa)->aa):List Arg->(jD->aa)->aa:=λas kf=>match Kb l as with
 |some x=>F x kf
 |none=>g as kf
def wj (ks:List Kd) (S:St) (f:Fu ks->aa):aa:=match proj ks S with
 |some x=>f x
 |none=>none
theorem w6 {f:Fu ks->aa} (h:∀ x,f x=none):wj ks S f=none:=by
 unfold wj;split
 ·exact h _
 rfl
theorem agk {c:Bool} {a b:aa} (ha:a=none) (hb:b=none):(bif c then a else b)=none:=by cases c<;>assumption
section
variable {Γ:Gl} {P:Program}
theorem abK (h1:Sound Γ P f (cX l F)) (h2:Sound Γ P f g):Sound Γ P f (anB l F g):=by
 refine⟨?_,λas=>?_⟩
 ·intro args kf ret w σ fC H B hr mI;unfold anB at hr;split at hr
  ·rename_i x hx;exact h1.1 args kf ret w σ fC H B (by unfold cX;rw[hx];exact hr) mI
  exact h2.1 args kf ret w σ fC H B hr mI
 have h3:=h1.2 as;unfold cX at h3;unfold anB;cases hx:Kb l as with
 |some x=>rw[hx] at h3;exact h3
 |none=>exact h2.2 as
theorem abL:Sound Γ P f (λ_ _=>none):=⟨λ_ _ _ _ _ _ _ _ h=>(by cases h),λ_=>jk.none⟩
theorem wk (h:∀ as kf,run as kf=none):Sound Γ P f run:=⟨λ_ _ _ _ _ _ _ _ e=>(by rw[h] at e;cases e),λas=>⟨none,λK=>h as K⟩⟩
def EOK (Γ:Gl) (P:Program):List Entry->Prop
 |[]=>True
 |e::r=>Sound Γ P e.f e.run/\EOK Γ P r
theorem agl:∀ {l:List Entry},EOK Γ P l->∀ e∈l,Sound Γ P e.f e.run
 |[],_,e,h=>by cases h
 |e'::r,h,e,he=>by
  rcases aV.1 he with rfl |he
  ·exact h.1
  exact agl h.2 e he
def OC (hh:Hint) (O:vi) (Lf:Nat->Nat->St->Ks->aa) (N:Nat):List Code->Prop
 |[]=>True
 |c::r=>(∀ (n:Nat) (ks:List Kd),AN hh.loops (keyOf c)=some ks->∀ (x:Fu ks) (K:Ks),Lf (n+1) (keyOf c) (shape ks x) (hh.nc (keyOf c) K)=sF hh O (JU Lf N n (keyOf c)) c (shape ks x) (hh.nc (keyOf c) K))/\OC hh O Lf N r
theorem Sq :∀ {l:List Code},OC hh O Lf N l->∀ c∈l,∀ (n:Nat) (ks:List Kd),AN hh.loops (keyOf c)=some ks->∀ (x:Fu ks) (K:Ks),Lf (n+1) (keyOf c) (shape ks x) (hh.nc (keyOf c) K)=sF hh O (JU Lf N n (keyOf c)) c (shape ks x) (hh.nc (keyOf c) K)
 |[],_,c,h=>by cases h
 |c'::r,h,c,hc=>by
  rcases aV.1 hc with rfl |hc
  ·exact h.1
  exact Sq h.2 c hc
theorem zh (hk:keyOf c=key) (hh1:AN hh.loops key=some ks) (h:∀ (n:Nat) (x:Fu ks) (K:Ks),Lf (n+1) key (shape ks x) (hh.nc key K)=sF hh O (JU Lf N n key) c (shape ks x) (hh.nc key K)) (hr:OC hh O Lf N l):OC hh O Lf N (c::l):=by refine⟨λn ks' Xd x K=>?_,hr⟩;rw[hk] at Xd ⊢;rw[hh1] at Xd;injection Xd with Xd;subst Xd;exact h n x K
theorem qz (hm : P.follows .mixedOrders = true) (hT : ke P hh.tab = true) (hO : EOK Γ P es)   (hf : P.funcs[f]? = some fn) (hb : fn.body = some body) (hnm : (fn.name == "runtime.NumGoroutine") = false)
  (Oa:py hh (vi.of es) body=true) (hky:C9 body=true) {Lf:Nat->Nat->St->Ks->aa} (h0:∀ k S K,Lf 0 k S K=none) (hls:cY body=ls) (iR:OC hh (vi.of es) Lf N ls) {F:fK l->(jD->aa)->aa}
  (hlen:Nat.ble l.length fn.ntmps=true) (hF:∀ x kf,F x kf=rP hh (vi.of es) (Lf N) fn (iS l x) kf) (XF:rO body=true∨∀ x,jk (F x)):Sound Γ P f (cX l F):=by
 refine⟨?_,λas=>?_⟩
 rotate_left
 ·unfold cX
  cases hx:Kb l as with
  |none=>exact jk.none
  |some x=>
   rcases XF with hp |XF
   rotate_left
   ·exact XF x
   have hd:Ll (vi.of es):=λf=>(aq1 (agl hO) f).2
   have:=akK (h:=hh) hd (L:=Lf N) (fn:=fn) hb hp (λk hk=>apf hd h0 body hp (λc hc n ks x K Xd=>by rw[hls] at hc;exact Sq iR c hc n ks Xd x K) k hk N (.inl rfl)) (iS l x)
   have e:(λkf=>F x kf)=λkf=>rP hh (vi.of es) (Lf N) fn (iS l x) kf:=funext λkf=>hF x kf
   show jk λkf=>F x kf
   rw[e]
   exact this
 refine ayV hm hT (aq1 (agl hO)) hf hb hnm Oa hky (N:=N) h0 (λc hc n ks x K r Xd hr=>?_) (λargs kf r hr=>?_)
 ·rw[hls] at hc
  rw[←Sq iR c hc n ks Xd x K]
  exact hr
 ·unfold cX at hr
  split at hr
  case h_2=>cases hr
  rename_i x hx
  have:=uM l args hx
  subst this
  exact⟨by rw[KV];exact bH hlen,by rw[←hF];exact hr⟩
end
def alp (x:Int):List Int->List Int
 |[]=>[x]
 |y::r=>bif decide (x<=y) then x::y::r else y::alp x r
def zT:List Int->List Int
 |[]=>[]
 |x::r=>alp x (zT r)
theorem XG (x:Int):∀ l,(alp x l).Perm (x::l)
 |[]=>.refl _
 |y::r=>by
  unfold alp;cases decide (x<=y) with
  |true=>exact .refl _
  |false=>exact((XG x r).cons y).trans (.swap x y r)
theorem aiF (x:Int):∀ l:List Int,l.Pairwise (λa b=>a<=b)->(alp x l).Pairwise (λa b=>a<=b)
 |[],_=>by simp[alp]
 |y::r,h=>by
  obtain⟨h1,h2⟩:=bZ.1 h;unfold alp;by_cases hx:x<=y
  ·rw[af hx,ab];refine bZ.2 ⟨λz hz=>?_,h⟩;rcases aV.1 hz with rfl |hz
   ·exact hx
   have:=h1 z hz;omega
  rw[ak hx,ae];refine bZ.2 ⟨λz hz=>?_,aiF x r h2⟩;rcases aV.1 ((XG x r).mem_iff.1 hz) with rfl |hz
  ·omega
  exact h1 z hz
theorem MR:∀ l,(zT l).Perm l
 |[]=>.refl _
 |x::r=>(XG x _).trans ((MR r).cons x)
theorem XH:∀ l,(zT l).Pairwise (λa b=>a<=b)
 |[]=>.nil
 |x::r=>aiF x _ (XH r)
theorem aiG (l:List Int):l.mergeSort (λx y=>decide (x<=y))=zT l:=
 List.Perm.eq_of_pairwise (le:=λa b=>a<=b) (λa b _ _ h1 h2=>by omega) ((List.pairwise_mergeSort (le:=λx y:Int=>decide (x<=y)) (λa b c=>by simp only[ax];omega) (λa b=>by simp only[bo,ax];omega) l).imp λ{a b} h=>by simpa using h) (XH l) ((List.mergeSort_perm l _).trans (MR l).symm)
def mL (x:Int):List Int->List Int
 |[]=>[]
 |y::r=>bif y==x then mL x r else y::mL y r
def po:List Int->List Int
 |[]=>[]
 |x::r=>x::mL x r
def XI:List (Nat×Nat)->Nat->Nat
 |[],n=>n
 |p::r,n=>bif Nat.beq n p.1 then p.2 else XI r n
end Go.Pv
namespace Go.Pv
open List Int IntKind
def rp (n:Int):ByteArray:=⟨(Lib.itoa n).toArray⟩
def LH (s:ByteArray) (c:Int):Int:=Lib.indexByte s.data.toList (toNat c).toUInt8
def D' (s sep:ByteArray):List ByteArray:=Lib.splitB sep 0 (Lib.countB s sep) s
def aEO (s sep:ByteArray):ByteArray:=⟨(Lib.cut s.data.toList sep.data.toList).1.toArray⟩
def aEP (s sep:ByteArray):ByteArray:=⟨(Lib.cut s.data.toList sep.data.toList).2.1.toArray⟩
def aEQ (s sep:ByteArray):Bool:=(Lib.cut s.data.toList sep.data.toList).2.2
def Kc (xs:List ByteArray) (sep:ByteArray):ByteArray:=⟨(Lib.join (xs.map (·.data.toList)) sep.data.toList).toArray⟩
def Sr (k:IntKind) (x:Int):Int:=k.wrap (BitVec.ofInt k.bits (if k.signed then -1 else k.max)^^^BitVec.ofInt k.bits x).toNat
variable {P:Program} {w:World} {Θ:nh} {Wr:Nat->Prop}
def wf:(t:Ty)->t.I->Prop
 | .int k,n=>(Lit.int k n).wf=true
 | .bool,_=>True
 | .str,s=>s.size<=maxLen
 | .unit,_=>True
 | .sl t,xs=>xs.length<=maxLen/\∀ x∈xs,wf t x
 | .ptr t,x=>wf t x
 | .pair a b,x=>wf a x.1/\wf b x.2
 | .arr _ t,xs=>∀ x∈xs,wf t x
 | .mp,_=>False
def arn (Θ:nh):Bool:=Θ.all λi=>match i.fs,i.ty with
 |[_],.pair _ .unit=>true
 |[_],_=>false
 |[],.pair _ _=>false
 |_,.arr _ _=>false
 |_,.mp=>false
 |_,_=>true
theorem aiH {i:TI} (h:(match i.fs,i.ty with
 |[_],.pair _ .unit=>true
 |[_],_=>false
 |[],.pair _ _=>false
 |_,.arr _ _=>false
 |_,.mp=>false
 |_,_=>true)=true):(∀ n t,i.ty≠ .arr n t)/\i.ty≠ .mp:=by
 split at h<;>simp_all
theorem apg (h:w.cells? base a n=some cs):cs.length=n/\∀ j,j<n->w.cell? (a.add j)=cs[j]?:=by
 unfold World.cells? at h;split at h;case isFalse=>cases h
 have key:∀ (l:List Nat) (cs:List Value),(l.mapM λi=>w.cell? (a.add i))=some cs->cs.length=l.length/\∀ j (hj:j<l.length),w.cell? (a.add l[j])=cs[j]?:=by
  intro l;induction l with
  |nil=>intro cs h;simp at h;subst h;exact⟨rfl,λj hj=>by simp at hj⟩
  |cons i r ih=>
  intro cs h;rw[sH] at h;cases h1:w.cell? (a.add i) with
  |none=>rw[h1] at h;cases h
  |some v=>
  rw[h1] at h;cases h2:(r.mapM λi=>w.cell? (a.add i)) with
  |none=>rw[h2] at h;cases h
  |some vs=>
  rw[h2] at h;injection h with h;subst h;obtain⟨k1,k2⟩:=ih vs h2;refine⟨by simp[k1],λj hj=>?_⟩;cases j with
  |zero=>simpa using h1
  |succ j=>simpa using k2 j (by simpa using hj)
 obtain⟨h1,h2⟩:=key _ _ h;refine⟨by simpa using h1,λj hj=>?_⟩;have:=h2 j (by simpa using hj);simpa using this
theorem aiI (g off n:Nat):(⟨g,off,none⟩:Addr).add n=⟨g,off+n,none⟩:=AT g off n
theorem aeZ (hn:0<n) (h:w.cells? base a n=some cs):∃ cur T fr,a=⟨a.block,a.off,none⟩/\w.heap[a.block]?=some (.cells cur T fr)/\a.off+n<=cur.size/\cs=(cur.toList.drop a.off).take n:=by
 obtain⟨h1,h2⟩:=apg h;have h0:=h2 0 hn;have e0:a.add 0=a:=by unfold Addr.add;rw[aA rfl]
 rw[e0] at h0;unfold World.cell? at h0;obtain⟨v,hv⟩:∃ v,cs[0]?=some v:=⟨_,aU (by omega)⟩;rw[hv] at h0;split at h0;case h_2=>cases h0
 rename_i cur T fr hw;split at h0
 ·cases h0
 rename_i hs;have hsp:a.spot=none:=by cases hx:a.spot with
  |none=>rfl
  |some _=>rw[hx] at hs;simp at hs
 have ha:a=⟨a.block,a.off,none⟩:=by cases a;simp only at hsp;subst hsp;rfl
 have Rs:∀ j,j<n->cur[a.off+j]?=cs[j]?:=λj hj=>by have:=h2 j hj;rw[ha,aiI] at this;simpa[World.cell?,hw] using this
 have hb:a.off+n<=cur.size:=by have:=Rs (n - 1) (by omega);rw[aU (show n - 1<cs.length by omega)] at this;have:=dz this;omega
 refine⟨cur,T,fr,ha,hw,hb,?_⟩;apply de;intro j;by_cases hj:j<n
 ·rw[bQ,aA hj,cG,←Rs j hj,bK]
 rw[cA (by omega),cA (by rw[aH];omega)]
theorem mapM_at {α β:Type} {f:α->Option β}:∀ {l:List α} {r:List β},l.mapM f=some r->r.length=l.length/\∀ (j:Nat) (a:α),l[j]?=some a->∃ b,f a=some b/\r[j]?=some b
 |[],r,h=>by simp at h;subst h;exact⟨rfl,λj a hj=>by simp at hj⟩
 |a::l,r,h=>by
  rw[sH] at h;cases h1:f a with
  |none=>rw[h1] at h;cases h
  |some b=>
  rw[h1] at h;cases h2:l.mapM f with
  |none=>rw[h2] at h;cases h
  |some bs=>
  rw[h2] at h;injection h with h;subst h;obtain⟨k1,k2⟩:=mapM_at h2;refine⟨by simp[k1],λj a' hj=>?_⟩;cases j with
  |zero=>simp only[aE,ah] at hj;subst hj;exact⟨b,h1,rfl⟩
  |succ j=>simpa using k2 j a' (by simpa using hj)
theorem avn {n:Nat} {ty:Ty} {cs:List Value} (hlen:cs.length=ty.size) (h2:2<=n) (hf:∀ k,k<n->∃ (t:Ty) (x:t.I),vX (J0 k n) ty=some t/\K w Wr t x ((cs.drop (cE (J0 k n) ty)).take t.size)/\wf t x): ∀ (m j:Nat) (u:Ty),j+m+1=n->vX (List.replicate j .snd) ty=some u->cE (List.replicate j .snd) ty+u.size=ty.size->∃ x:u.I,K w Wr u x (cs.drop (cE (List.replicate j .snd) ty))/\wf u x:=by
 have aBw:∀ k,k<n->J0 k n=if k+1=n then List.replicate k .snd else List.replicate k .snd++[.fst]:=λk hk=>by
  unfold J0;have h1:Nat.beq n 1=false:=by
   cases hb:Nat.beq n 1 with
   |false=>rfl
   |true=>have:=aw hb;omega
  by_cases hkn:k+1=n
  ·rw[aA hkn,hkn,bV,h1];rfl
  have:Nat.beq (k+1) n=false:=by
   cases hb:Nat.beq (k+1) n with
   |false=>rfl
   |true=>exact absurd (aw hb) hkn
  rw[aq hkn,this];rfl
 have axE:∀ (p q:Path) (t:Ty),vX (p++q) t=(vX p t).bind (vX q):=by
  intro p;induction p with
  |nil=>intro q t;rfl
  |cons s p ih=>intro q t;cases s<;>cases t<;>first |rfl |exact ih q _
 have aro:∀ (p q:Path) (t u:Ty),vX p t=some u->cE (p++q) t=cE p t+cE q u:=by
  intro p;induction p with
  |nil=>intro q t u h;simp only[vX,ah] at h;subst h;simp[cE]
  |cons s p ih=>
  intro q t u h;cases s<;>cases t<;>simp only[vX,reduceCtorEq] at h
  ·simp only[bF,cE];exact ih q _ u h
  simp only[bF,cE];rw[ih q _ u h];omega
 intro m;induction m with
 |zero=>intro j u hj hu sW;obtain⟨t,x,k1,k2,k3⟩:=hf j (by omega);rw[aBw j (by omega),aA (by omega)] at k1 k2;rw[hu] at k1;injection k1 with k1;subst k1;rw[cB (by rw[a8];omega)] at k2;exact⟨x,k2,k3⟩
 |succ m ih=>
 intro j u hj hu sW;obtain⟨t,x,k1,k2,k3⟩:=hf j (by omega);rw[aBw j (by omega),aq (by omega)] at k1 k2;rw[axE,hu,aL] at k1;cases u with
 |pair a b=>
 simp only[vX,ah] at k1;subst k1;have e1:cE (List.replicate j .snd++[.fst]) ty=cE (List.replicate j .snd) ty:=by rw[aro _ _ _ _ hu];simp[cE]
 have hr:List.replicate (j+1) Step.snd=List.replicate j .snd++[.snd]:=rV;have e2:cE (List.replicate (j+1) .snd) ty=cE (List.replicate j .snd) ty+a.size:=by rw[hr,aro _ _ _ _ hu];simp[cE]
 have hu2:vX (List.replicate (j+1) .snd) ty=some b:=by rw[hr,axE,hu];rfl
 simp only[Ty.size] at sW;obtain⟨y,q1,q2⟩:=ih (j+1) b (by omega) hu2 (by rw[e2];omega);rw[e1] at k2;rw[e2] at q1;refine⟨(x,y),?_,k3,q2⟩;simp only[K];refine⟨(cs.drop (cE (List.replicate j .snd) ty)).take a.size,cs.drop (cE (List.replicate j .snd) ty+a.size),?_,k2,q1⟩;rw[←ef,ep]
 |_=>simp[vX] at k1
theorem Zg {α:Type} {Q:Nat->α->Prop}:∀ (n:Nat),(∀ j,j<n->∃ x,Q j x)->∃ xs:List α,xs.length=n/\∀ j (h:j<xs.length),Q j xs[j]
 |0,_=>⟨[],rfl,λj h=>by simp at h⟩
 |n+1,h=>by
  obtain⟨xs,h1,h2⟩:=Zg n λj hj=>h j (by omega);obtain⟨x,hx⟩:=h n (by omega);refine⟨xs++[x],by simp[h1],λj hj=>?_⟩;by_cases hjn:j<xs.length
  ·rw[cN hjn];exact h2 j hjn
  have:j=n:=(by simp at hj;omega);subst this;rw[dN (by omega)];simpa using hx
theorem alq {Hh:Type} {enc:TypeId×Value->Hh} {spare:Nat->Bool} (hT:ke P Θ=true) (hU:arn Θ=true):∀ (fuel:Nat) (t:Ty) {T:TypeId} {cs:List Value} {r:DataW Hh×List MemPlace},Θ.is T t=true-> DataW.trod enc P w base spare held fuel T cs=some r->∃ x:t.I,K w (λ_=>False) t x cs/\wf t x
 |0,t,T,cs,r,_,e=>by simp[DataW.trod] at e
 |fuel+1,t,T,cs,r,ht,e=>by
  obtain⟨i,hi,rS⟩:=pC ht;obtain⟨aDW,hu,Sc⟩:=kP hT hi;obtain⟨_,n1,n3⟩:=T9 hu;obtain⟨n2,n4⟩:=aiH (aO.1 hU i (Lq hi).1);cases t with
  |int k=>
  have hd:=T7 hu rS;rw[Sc] at hd;unfold DataW.trod at e;rw[hd] at e;split at e<;>rename_i he<;>first |(cases he;done) |skip
  all_goals first |(injection he with he;cases he;done) |skip
  ·injection he with he;injection he with he;subst he;split at e
   ·rename_i hc;obtain⟨h1,hw⟩:=hc;subst h1;exact⟨_,show [Value.int _ _]=[Value.int _ _] from rfl,hw⟩
   cases e
  cases e
  |bool=>
  have hd:=T8 hu rS;rw[Sc] at hd;unfold DataW.trod at e;rw[hd] at e;split at e<;>rename_i he<;>first |(cases he;done) |skip
  ·exact⟨_,show [Value.bool _]=[Value.bool _] from rfl,trivial⟩
  cases e
  |str=>
  have hd:=MK hu rS;rw[Sc] at hd;unfold DataW.trod at e;rw[hd] at e;split at e<;>rename_i he<;>first |(cases he;done) |skip
  ·split at e
   ·rename_i hs;exact⟨_,show [Value.string _]=[Value.string _] from rfl,hs⟩
   cases e
  cases e
  |sl t=>
  obtain⟨hd,u2,u3⟩:=Gs hu rS;rw[Sc] at hd;obtain⟨inf,s1,s2,s3⟩:=wX hT u2;unfold DataW.trod at e;rw[hd] at e;split at e<;>rename_i he<;>first |(cases he;done) |skip
  ·exact⟨[],by simp only[K];exact⟨none,0,rfl,aR _,λh=>absurd h (zb _)⟩,by simp[wf]⟩
  ·rename_i e' ad len cap;injection he with he;injection he with he;subst he;simp only at e;split at e;case isFalse=>cases e
   rename_i hc;obtain⟨_,hlc,hcm⟩:=hc;obtain⟨els,hm,_⟩:=Option.bind_eq_some_iff.1 e;obtain⟨m1,m2⟩:=mapM_at hm;have Qh:∀ j,j<len->∃ x:t.I,(∃ row,w.cells? base (ad.add (j*t.size)) t.size=some row/\K w (λ_=>False) t x row)/\wf t x:=λj hj=>by obtain⟨b,hb,_⟩:=m2 j j (by rw[List.getElem?_range hj]);obtain⟨row,hr1,hr2⟩:=Option.bind_eq_some_iff.1 hb;rw[s3] at hr1;obtain⟨x,k1,k2⟩:=alq hT hU fuel t u2 hr2;exact⟨x,⟨row,hr1,k1⟩,k2⟩
   obtain⟨xs,x1,x2⟩:=Zg len Qh;refine⟨xs,?_,by rw[x1];omega,λx hx=>?_⟩
   ·simp only[K];refine⟨some ad,cap,by rw[x1],by rw[x1];exact hlc,λhp=>?_⟩;obtain⟨⟨aER,r1,_⟩,_⟩:=x2 0 hp;obtain⟨cur,T1,fr,b1,b2,b3,b4⟩:=aeZ u3 r1;have e0:ad.add (0*t.size)=ad:=by rw[Nat.zero_mul];unfold Addr.add;rw[aA rfl]
    rw[e0] at b1 b2;have wc:∀ j (hj:j<xs.length),∃ row,K w (λ_=>False) t xs[j] row/\ad.off+j*t.size+t.size<=cur.size/\row=(cur.toList.drop (ad.off+j*t.size)).take t.size:=λj hj=>(by obtain⟨⟨row,q1,q2⟩,_⟩:=x2 j hj;obtain⟨ak8,T',fr',c1,c2,c3,c4⟩:=aeZ u3 q1;have ea:ad.add (j*t.size)=⟨ad.block,ad.off+j*t.size,none⟩:=(by rw[b1,aiI]);rw[ea] at c2 c3 c4;simp only at c2 c3 c4;rw[b2] at c2;injection c2 with c2;injection c2 with c2;subst c2;exact⟨row,q2,c3,c4⟩);refine⟨ad.block,ad.off,cur,T1,fr,by rw[←b1],λh=>h,b2,?_,λj hj=>?_⟩
    ·obtain⟨row,_,q,_⟩:=wc (xs.length - 1) (by omega);have:(xs.length - 1)*t.size+t.size=xs.length*t.size:=(by have:xs.length=(xs.length - 1)+1:=(by omega);conv=>rhs;rw[this,bg,cM]);omega
    obtain⟨row,q1,_,q2⟩:=wc j hj;rw[←q2];exact q1
   obtain⟨j,hj,rfl⟩:=bL.1 hx;exact(x2 j hj).2
  cases e
  |pair pa pb=>
   obtain⟨fs,hd,f2,f3,_⟩:=Iw hu rS;rw[Sc] at hd;obtain⟨inf,s1,s2,s3⟩:=wX hT ht;have hfn:fs.toList.length=i.fs.length:=(by rw[←f2,bh]);have hfs:fs.size=i.fs.length:=(by rw[←hfn,bT]);have hUi:=aO.1 hU i (Lq hi).1;unfold DataW.trod at e;rw[hd] at e;have e':(if cs.length=P.cellsOf T then(fs.toList.mapM λf=>DataW.trod enc P w base spare held fuel f.type ((cs.drop f.offset).take (P.cellsOf f.type))).map λxs=>(DataW.agg (xs.map (·.1)),xs.flatMap (·.2)) else none)=some r:=by
    split at e<;>rename_i he<;>first |(cases he;done) |skip
    ·injection he with he;injection he with he;subst he;exact e
    first |exact e |(injection he with he;injection he with he;subst he;exact e) |cases e
   split at e';case isFalse=>cases e'
   rename_i hlen;rw[s3] at hlen;obtain⟨els,hm,_⟩:=mY.1 e';obtain⟨m1,m2⟩:=mapM_at hm;have hf:∀ k,k<i.fs.length->∃ (t:Ty) (x:t.I),vX (J0 k i.fs.length) (.pair pa pb)=some t/\K w (λ_=>False) t x ((cs.drop (cE (J0 k i.fs.length) (.pair pa pb))).take t.size)/\wf t x:=λk hk=>by have sB:fs.toList[k]?=some (fs.toList[k]'(by omega)):=aU (by omega);obtain⟨t,t1,t2,t3,_⟩:=zQ f3 k _ sB;rw[aW,hfs,rS] at t1 t3;obtain⟨b,hb,_⟩:=m2 k _ sB;obtain⟨_,_,_,c3⟩:=wX hT t2;rw[c3,t3] at hb;obtain⟨x,k1,k2⟩:=alq hT hU fuel t t2 hb;exact⟨t,x,t1,k1,k2⟩
   rw[rS] at hUi;rcases gP i.fs.length 2 with h2 |h2
   ·match hfi:i.fs,h2 with
    |[],_=>rw[hfi] at hUi;simp at hUi
    |[T1],_=>
     rw[hfi] at hUi hf
     obtain⟨t,x,k1,k2,k3⟩:=hf 0 (by simp)
     cases pb<;>simp at hUi
     simp only[J0,List.length_singleton] at k1 k2
     simp[vX,cE] at k1 k2
     subst k1
     refine⟨(x,()),?_,k3,trivial⟩
     simp only[K]
     refine⟨cs.take pa.size,[],?_,k2,rfl⟩
     rw[b6,cB (by simp only[Ty.size] at hlen;omega)]
   obtain⟨x,k1,k2⟩:=avn hlen h2 hf (i.fs.length - 1) 0 (.pair pa pb) (by omega) rfl (by simp[cE]);exact⟨x,by simpa[cE] using k1,k2⟩
  |ptr t=>exact absurd rS (n1 t)
  |arr n t=>exact absurd rS (n2 n t)
  |mp=>exact absurd rS n4
  |unit=>exact absurd rS n3
end Go.Pv
namespace Go.Pv
open List Int IntKind
open Go.RowKit
variable {P:Program} {w:World} {Θ:nh}
theorem aph {Γ:Gl} {f:FuncId} {run:List Arg->(jD->aa)->aa} (hs:Sound Γ P f run) (zU:∀ g o,Γ g=some o->w.heap[g]?=some o) {args:List TV} {fC:List Value} (hr:run (args.map .tv) some=some ⟨[⟨.bool,.k,true⟩],[]⟩) (hlen:fC.length=args.length) (hv:∀ (j:Nat) (b:TV),args[j]?=some b->∃ v cs,fC[j]?=some v/\a7 b.t v cs/\b.m=.k/\K w (λ_=>False) b.t b.x cs) (ayZ:∀ v w',(callFunc f fC.toArray).run P w≠ .ok (.value v) w'): Calls P f fC.toArray w λe w'=>e=.returned (.bool true)/\Below w.heap.size w w':=by
 have Lu:Av (λ_:Nat=>(none:Option Nat)) (λ_=>False)=λ_=>False:=funext λg=>propext ⟨λh=>h.elim (λ⟨i,hi⟩=>(by cases hi)) id,λh=>h.elim⟩;have mI:In Γ (λ_=>False) (λ_=>undef) w (λ_=>none) (args.map .tv) fC:=by
  refine⟨by simpa using hlen,λg i hg=>(by cases hg),λg hg=>hg.elim,λg o hg=>⟨rfl,zU g o hg⟩,λj a hj=>?_⟩;rw[bR] at hj;cases hb:args[j]? with
  |none=>rw[hb] at hj;cases hj
  |some b=>rw[hb] at hj;injection hj with hj;subst hj;obtain⟨v,cs,h1,h2,h3,h4⟩:=hv j b hb;refine⟨v,h1,cs,h2,?_⟩;rw[Lu,h3];exact ua _ h4
 rcases hs.1 _ _ _ w _ fC (λ_=>undef) _ hr mI with⟨_,h⟩ |⟨v,w',h,_⟩
 ·refine h.mono λe w' he=>?_;cases e with
  |returned v=>
   obtain⟨rt,h1,h2⟩:=he
   injection h1 with h1
   subst h1
   obtain⟨nK,vs,q1,q2,_,q4,_⟩:=h2.res
   obtain⟨u,cs,u1,u2,u3⟩:=q4 0 _ rfl
   match vs,q2 with
   |[u'],_=>
    simp only[aE,ah] at u1
    subst u1
    simp only[M] at u3
    have:=lO u2 u3.2
    refine⟨by rw[q1,this];rfl,⟨h2.fr.os,h2.fr.tape,h2.fr.output,h2.fr.size,λk hk=>h2.fr.block k hk (λ⟨i,hi⟩=>by cases hi)⟩⟩
  |panicked c=>exact he.elim
  |outgrown=>exact he.elim
 exact absurd h (ayZ v w')
def ae0 (Θ:nh):List TypeId->List Ty->Bool
 |[],[]=>true
 |T::Ts,t::ts=>Θ.is T t&&ae0 Θ Ts ts
 |_,_=>false
def wfs:(ts:List Ty)->Rz ts->Prop
 |[],_=>True
 |t::r,x=>wf t x.1/\wfs r x.2
open ChangeShapes WideShapes in
theorem arp {Hh:Type} {enc:TypeId×Value->Hh} {r:Reach} {b0 base:Nat} {spare:Nat->Bool} {held:Bool} (hT:ke P Θ=true) (hU:arn Θ=true) {T:TypeId} {t:Ty} {v:Value} {d:DataW Hh} {ps:List MemPlace} (ht:Θ.is T t=true) (AQ:Value.okWide P w r b0 T v) (hd:DataW.Trod enc P w base spare held T v d ps):∃ x:t.I,(∃ cs,a7 t v cs/\K w (λ_=>False) t x cs)/\wf t x:=by
 obtain⟨fuel,hf⟩:=hd;obtain⟨x,h1,h2⟩:=alq hT hU fuel t ht hf;refine⟨x,⟨_,?_,h1⟩,h2⟩;obtain⟨i,hi,rS⟩:=pC ht;obtain⟨aDW,hu,Sc⟩:=kP hT hi;obtain⟨_,n1,n3⟩:=T9 hu;obtain⟨n2,n4⟩:=aiH (aO.1 hU i (Lq hi).1);cases t with
 |int k=>have hd:=T7 hu rS;rw[Sc] at hd;obtain⟨n,rfl⟩:=okWide_int hd AQ;simp[a7,isAgg,Value.cells]
 |bool=>have hd:=T8 hu rS;rw[Sc] at hd;obtain⟨n,rfl⟩:=okWide_bool hd AQ;simp[a7,isAgg,Value.cells]
 |str=>have hd:=MK hu rS;rw[Sc] at hd;obtain⟨n,rfl⟩:=okWide_string hd AQ;simp[a7,isAgg,Value.cells]
 |sl t=>obtain⟨hd,_⟩:=Gs hu rS;rw[Sc] at hd;obtain⟨a,l,c,rfl⟩:=okWide_slice hd AQ;simp[a7,isAgg,Value.cells]
 |pair pa pb=>obtain⟨fs,hd,_⟩:=Iw hu rS;rw[Sc] at hd;simp only[Value.okWide,hd] at AQ;obtain⟨cs,rfl,_⟩:=AQ;simp[a7,isAgg,Value.cells]
 |ptr t=>exact absurd rS (n1 t)
 |arr n t=>exact absurd rS (n2 n t)
 |mp=>exact absurd rS n4
 |unit=>exact absurd rS n3
theorem ae1 {Hh:Type} {enc:TypeId×Value->Hh} {r:Reach} {b0 base:Nat} {spare:Nat->Bool} {held:Bool} (hT:ke P Θ=true) (hU:arn Θ=true):∀ (Ts:List TypeId) (ts:List Ty) (fC:List Value) {ds:List (DataW Hh)} {ps:List MemPlace},ae0 Θ Ts ts=true-> (∀ (j:Nat) t v,Ts[j]?=some t->fC[j]?=some v->Value.okWide P w r b0 t v)->DataW.TrodAll enc P w base spare held Ts fC ds ps-> ∃ x:Rz ts,wfs ts x/\fC.length=ts.length/\∀ (j:Nat) (b:TV),(D9 ts x)[j]?=some b->∃ v cs,fC[j]?=some v/\a7 b.t v cs/\b.m=.k/\K w (λ_=>False) b.t b.x cs
 |[],[],fC,ds,ps,_,_,h=>by obtain⟨rfl,_,_⟩:=ChangeShapes.trodAll_nil h;exact⟨(),trivial,rfl,λj b hj=>by simp[D9] at hj⟩
 |[],_::_,_,_,_,e,_,_=>by simp[ae0] at e
 |_::_,[],_,_,_,e,_,_=>by simp[ae0] at e
 |T::Ts,t::ts,fC,ds,ps,e,AI,h=>by
  simp only[ae0,ai] at e;obtain⟨v,vs,d,ds',p,q,rfl,rfl,rfl,h1,h2⟩:=ChangeShapes.trodAll_cons h;obtain⟨x,⟨cs,m1,m2⟩,m3⟩:=arp hT hU e.1 (AI 0 T v rfl rfl) h1;obtain⟨y,k1,k2,k3⟩:=ae1 hT hU Ts ts vs e.2 (λj t v hj hv=>AI (j+1) t v (by simpa using hj) (by simpa using hv)) h2;refine⟨(x,y),⟨m3,k1⟩,by simp[k2],λj b hj=>?_⟩;cases j with
  |zero=>simp only[D9,aE,ah] at hj;subst hj;exact⟨v,cs,rfl,m1,rfl,m2⟩
  |succ j=>obtain⟨v',kY,q1,q2⟩:=k3 j b (by simpa[D9] using hj);exact⟨v',kY,by simpa using q1,q2⟩
theorem abM {Hh:Type} {enc:TypeId×Value->Hh} (hl:laidOutB P=true) (hb:Below W.heap.size W W'):∀ (Ts:List TypeId) (fC:List Value) {ds:List (DataW Hh)} {ps:List MemPlace},(Ts.all λT=>P.readableRec T&&decide (T<P.types.size))=true-> DataW.TrodAll enc P W 0 (λ_=>true) true Ts fC ds ps->DataW.TrodAll enc P W' 0 (λb=>decide (b<W.heap.size)) true Ts fC ds ps
 |[],fC,ds,ps,_,h=>by obtain⟨rfl,rfl,rfl⟩:=ChangeShapes.trodAll_nil h;exact rfl
 |T::Ts,fC,ds,ps,hr,h=>by
  simp only[lM,ai,ax] at hr;obtain⟨v,vs,d,ds',p,q,rfl,rfl,rfl,h1,h2⟩:=ChangeShapes.trodAll_cons h;have lt:∀ x∈p,x.block<W.heap.size:=by obtain⟨m,hm⟩:=h1;exact DataW.trod_lt m _ _ _ hm
  exact⟨p,q,Below.trod hl hr.1.1 hr.1.2 h1 hb lt,abM hl hb Ts vs hr.2 h2,rfl⟩
theorem enters   (hf : P.funcs[f]? = some fn) (hb : fn.body = some body) (hnm : (fn.name == "runtime.NumGoroutine") = false) (fC : Array Value) : ∀ v w', (callFunc f fC).run P w ≠ .ok (.value v) w' := by
 intro v w' h
 have ayW : ¬ fn.name = "runtime.NumGoroutine" := by simpa using hnm
 simp[callFunc,hf,ayW,hb] at h
theorem arq {Γ:Gl} {Hh:Type} {enc:TypeId×Value->Hh} {r:Reach} {b0:Nat} {f:FuncId} {run:Nat->List Arg->(jD->aa)->aa} (hs:∀ N,Sound Γ P f (run N)) (zU:∀ g o,Γ g=some o->w.heap[g]?=some o) (hT:ke P Θ=true) (hU:arn Θ=true) (hl:laidOutB P=true) {Ts:List TypeId} {ts:List Ty} (hts:ae0 Θ Ts ts=true) (aBx:(Ts.all λT=>P.readableRec T&&decide (T<P.types.size))=true) (aBy:∀ x:Rz ts,wfs ts x->∃ N,run N ((D9 ts x).map .tv) some=some ⟨[⟨.bool,.k,true⟩],[]⟩) {args:Array Value} {ds:List (DataW Hh)} {ps:List MemPlace} (AI:∀ (j:Nat) t v,Ts[j]?=some t->args[j]?=some v->Value.okWide P w r b0 t v) (h:DataW.TrodAll enc P w 0 (λ_=>true) true Ts args.toList ds ps) (ayZ:∀ v w',(callFunc f args).run P w≠ .ok (.value v) w'): Calls P f args w λe w'=>e=.returned (.bool true)/\Below w.heap.size w w'/\DataW.TrodAll enc P w' 0 (λb=>decide (b<w.heap.size)) true Ts args.toList ds ps:=by
 obtain⟨x,h1,h2,h3⟩:=ae1 hT hU Ts ts args.toList hts (λj t v hj hv=>AI j t v hj (by simpa using hv)) h;obtain⟨N,hN⟩:=aBy x h1;have hlen:∀ (ts:List Ty) (x:Rz ts),(D9 ts x).length=ts.length:=by
  intro ts;induction ts with
  |nil=>intro _;rfl
  |cons t ts ih=>intro x;simp[D9,ih]
 have:=aph (hs N) zU (fC:=args.toList) hN (by rw[h2,hlen]) h3 (by simpa using ayZ);have he:args.toList.toArray=args:=by simp
 rw[he] at this;exact this.mono λe w' ⟨k1,k2⟩=>⟨k1,k2,abM hl k2 Ts _ aBx h⟩
end Go.Pv
namespace Go.Pv
open List Int IntKind
theorem wrap64 (h1: -9223372036854775808<=n) (h2:n<9223372036854775808):wrap .i64 n=n:=by simp[wrap,IntKind.bits,IntKind.signed];split<;>omega
theorem s4 (h:i<m) (hm:m<=maxLen):wrap .i64 ((i:Int)+1)=((i+1:Nat):Int):=by
 have:maxLen=9223372036854775807:=by decide
 rw[wrap64]<;>omega
theorem aJ {i m:Nat} (h:i<m):bj (i:Int) m=true:=by simp[bj,h]
theorem aI {α:Type} (l:List α) (i:Nat) (h:i<l.length) (z:α):l.getD i z=l[i]:=by simp[aF,h]
def A4 {α:Type} (body:Nat->α->aa->aa) (du:aa):List α->Nat->aa
 |[],_=>du
 |x::r,i=>body i x (A4 body du r (i+1))
def dI {α σ:Type} (body:Nat->α->σ->(σ->aa)->aa) (du:σ->aa):List α->Nat->σ->aa
 |[],_,s=>du s
 |x::r,i,s=>body i x s (λs'=>dI body du r (i+1) s')
theorem ars {α:Type} {f:Nat->Int->aa} {l:List α} {body:Nat->α->aa->aa} {du:aa} (hr:∀ (n i:Nat) (h:i<l.length),f (n+1) (i:Int)=body i l[i] (f n (wrap .i64 ((i:Int)+1)))) (he:∀ (n:Nat),f (n+1) (l.length:Int)=du) (hl:l.length<=maxLen): ∀ (r:List α) (i N:Nat),l.drop i=r->i<=l.length->r.length<N->f N (i:Int)=A4 body du r i
 |[],i,N,hd,hi,hN=>by have:i=l.length:=(by have:=bB length hd;simp at this;omega);subst this;obtain⟨N,rfl⟩:∃ m,N=m+1:=⟨N - 1,by simp at hN;omega⟩;exact he N
 |x::r,i,N,hd,hi,hN=>by have gU:i<l.length:=(by have:=bB length hd;simp at this;omega);rw[aY gU] at hd;injection hd with h1 h2;obtain⟨N,rfl⟩:∃ m,N=m+1:=⟨N - 1,by simp at hN;omega⟩;rw[hr N i gU,h1,s4 gU hl,ars hr he hl r (i+1) N h2 gU (by simpa using hN)];rfl
theorem art {α σ:Type} {f:Nat->σ->Int->aa} {l:List α} {body:Nat->α->σ->(σ->aa)->aa} {du:σ->aa} (hr:∀ (n i:Nat) (s:σ) (h:i<l.length),f (n+1) s (i:Int)=body i l[i] s (λs'=>f n s' (wrap .i64 ((i:Int)+1)))) (he:∀ (n:Nat) (s:σ),f (n+1) s (l.length:Int)=du s) (hl:l.length<=maxLen): ∀ (r:List α) (i N:Nat) (s:σ),l.drop i=r->i<=l.length->r.length<N->f N s (i:Int)=dI body du r i s
 |[],i,N,s,hd,hi,hN=>by have:i=l.length:=(by have:=bB length hd;simp at this;omega);subst this;obtain⟨N,rfl⟩:∃ m,N=m+1:=⟨N - 1,by simp at hN;omega⟩;exact he N s
 |x::r,i,N,s,hd,hi,hN=>by have gU:i<l.length:=(by have:=bB length hd;simp at this;omega);rw[aY gU] at hd;injection hd with h1 h2;obtain⟨N,rfl⟩:∃ m,N=m+1:=⟨N - 1,by simp at hN;omega⟩;rw[hr N i s gU,h1,s4 gU hl];have:(λs'=>f N s' ((i+1:Nat):Int))=λs'=>dI body du r (i+1) s':=funext λs'=>art hr he hl r (i+1) N s' h2 gU (by simpa using hN);rw[this];rfl
def alr {α LI eK:Type} (body:Nat->α->LI->eK->(LI->eK->aa)->aa) (du:LI->eK->aa):List α->Nat->LI->eK->aa
 |[],_,s0,s1=>du s0 s1
 |x::r,i,s0,s1=>body i x s0 s1 (λs0' s1'=>alr body du r (i+1) s0' s1')
theorem aru {α LI eK:Type} {f:Nat->LI->eK->Int->aa} {l:List α} {body:Nat->α->LI->eK->(LI->eK->aa)->aa} {du:LI->eK->aa} (hr:∀ (n i:Nat) (s0:LI) (s1:eK) (h:i<l.length),f (n+1) s0 s1 (i:Int)=body i l[i] s0 s1 (λs0' s1'=>f n s0' s1' (wrap .i64 ((i:Int)+1)))) (he:∀ (n:Nat) (s0:LI) (s1:eK),f (n+1) s0 s1 (l.length:Int)=du s0 s1) (hl:l.length<=maxLen): ∀ (r:List α) (i N:Nat) (s0:LI) (s1:eK),l.drop i=r->i<=l.length->r.length<N->f N s0 s1 (i:Int)=alr body du r i s0 s1
 |[],i,N,s0,s1,hd,hi,hN=>by have:i=l.length:=(by have:=bB length hd;simp at this;omega);subst this;obtain⟨N,rfl⟩:∃ m,N=m+1:=⟨N - 1,by simp at hN;omega⟩;exact he N s0 s1
 |x::r,i,N,s0,s1,hd,hi,hN=>by have gU:i<l.length:=(by have:=bB length hd;simp at this;omega);rw[aY gU] at hd;injection hd with h1 h2;obtain⟨N,rfl⟩:∃ m,N=m+1:=⟨N - 1,by simp at hN;omega⟩;rw[hr N i s0 s1 gU,h1,s4 gU hl];have:(λs0' s1'=>f N s0' s1' ((i+1:Nat):Int))=λs0' s1'=>alr body du r (i+1) s0' s1':=(by funext s0' s1';exact aru hr he hl r (i+1) N s0' s1' h2 gU (by simpa using hN));rw[this];rfl
def aiJ {α LI eK lR:Type} (body:Nat->α->LI->eK->lR->(LI->eK->lR->aa)->aa) (du:LI->eK->lR->aa):List α->Nat->LI->eK->lR->aa
 |[],_,s0,s1,s2=>du s0 s1 s2
 |x::r,i,s0,s1,s2=>body i x s0 s1 s2 (λs0' s1' s2'=>aiJ body du r (i+1) s0' s1' s2')
theorem arv {α LI eK lR:Type} {f:Nat->LI->eK->lR->Int->aa} {l:List α} {body:Nat->α->LI->eK->lR->(LI->eK->lR->aa)->aa} {du:LI->eK->lR->aa} (hr:∀ (n i:Nat) (s0:LI) (s1:eK) (s2:lR) (h:i<l.length),f (n+1) s0 s1 s2 (i:Int)=body i l[i] s0 s1 s2 (λs0' s1' s2'=>f n s0' s1' s2' (wrap .i64 ((i:Int)+1)))) (he:∀ (n:Nat) (s0:LI) (s1:eK) (s2:lR),f (n+1) s0 s1 s2 (l.length:Int)=du s0 s1 s2) (hl:l.length<=maxLen): ∀ (r:List α) (i N:Nat) (s0:LI) (s1:eK) (s2:lR),l.drop i=r->i<=l.length->r.length<N->f N s0 s1 s2 (i:Int)=aiJ body du r i s0 s1 s2
 |[],i,N,s0,s1,s2,hd,hi,hN=>by have:i=l.length:=(by have:=bB length hd;simp at this;omega);subst this;obtain⟨N,rfl⟩:∃ m,N=m+1:=⟨N - 1,by simp at hN;omega⟩;exact he N s0 s1 s2
 |x::r,i,N,s0,s1,s2,hd,hi,hN=>by have gU:i<l.length:=(by have:=bB length hd;simp at this;omega);rw[aY gU] at hd;injection hd with h1 h2;obtain⟨N,rfl⟩:∃ m,N=m+1:=⟨N - 1,by simp at hN;omega⟩;rw[hr N i s0 s1 s2 gU,h1,s4 gU hl];have:(λs0' s1' s2'=>f N s0' s1' s2' ((i+1:Nat):Int))=λs0' s1' s2'=>aiJ body du r (i+1) s0' s1' s2':=(by funext s0' s1' s2';exact arv hr he hl r (i+1) N s0' s1' s2' h2 gU (by simpa using hN));rw[this];rfl
theorem fg {i m:Nat} (h:i<m):decide ((i:Int)<(m:Int))=true:=af (by omega)
theorem fh {m:Nat}:decide ((m:Int)<(m:Int))=false:=ak (by omega)
theorem s5 {α:Type} {f:Nat->Int->aa} {l:List α} {body:Nat->α->aa->aa} {du:aa} (hr:∀ (n i:Nat) (h:i<l.length),f (n+1) (i:Int)=body i l[i] (f n (wrap .i64 ((i:Int)+1)))) (he:∀ (n:Nat),f (n+1) (l.length:Int)=du) (hl:l.length<=maxLen) {n:Nat} (hn:l.length<n):f n 0=A4 body du l 0:=ars hr he hl l 0 n rfl (fY _) hn
theorem pq {α σ:Type} {f:Nat->σ->Int->aa} {l:List α} {body:Nat->α->σ->(σ->aa)->aa} {du:σ->aa} (hr:∀ (n i:Nat) (s:σ) (h:i<l.length),f (n+1) s (i:Int)=body i l[i] s (λs'=>f n s' (wrap .i64 ((i:Int)+1)))) (he:∀ (n:Nat) (s:σ),f (n+1) s (l.length:Int)=du s) (hl:l.length<=maxLen) {n:Nat} (hn:l.length<n) (s0:σ):f n s0 0=dI body du l 0 s0:=art hr he hl l 0 n s0 rfl (fY _) hn
theorem aDX {α LI eK:Type} {f:Nat->LI->eK->Int->aa} {l:List α} {body:Nat->α->LI->eK->(LI->eK->aa)->aa} {du:LI->eK->aa} (hr:∀ (n i:Nat) (s0:LI) (s1:eK) (h:i<l.length),f (n+1) s0 s1 (i:Int)=body i l[i] s0 s1 (λs0' s1'=>f n s0' s1' (wrap .i64 ((i:Int)+1)))) (he:∀ (n:Nat) (s0:LI) (s1:eK),f (n+1) s0 s1 (l.length:Int)=du s0 s1) (hl:l.length<=maxLen) {n:Nat} (hn:l.length<n) (s0:LI) (s1:eK):f n s0 s1 0=alr body du l 0 s0 s1:=aru hr he hl l 0 n s0 s1 rfl (fY _) hn
theorem aBz {α LI eK lR:Type} {f:Nat->LI->eK->lR->Int->aa} {l:List α} {body:Nat->α->LI->eK->lR->(LI->eK->lR->aa)->aa} {du:LI->eK->lR->aa} (hr:∀ (n i:Nat) (s0:LI) (s1:eK) (s2:lR) (h:i<l.length),f (n+1) s0 s1 s2 (i:Int)=body i l[i] s0 s1 s2 (λs0' s1' s2'=>f n s0' s1' s2' (wrap .i64 ((i:Int)+1)))) (he:∀ (n:Nat) (s0:LI) (s1:eK) (s2:lR),f (n+1) s0 s1 s2 (l.length:Int)=du s0 s1 s2) (hl:l.length<=maxLen) {n:Nat} (hn:l.length<n) (s0:LI) (s1:eK) (s2:lR):f n s0 s1 s2 0=aiJ body du l 0 s0 s1 s2:=arv hr he hl l 0 n s0 s1 s2 rfl (fY _) hn
def aQ:(t:Ty)->t.I->Nat
 | .sl t,xs=>(xs:List t.I).length+((xs:List t.I).map (aQ t)).sum
 | .ptr t,x=>aQ t x
 | .pair a b,x=>aQ a x.1+aQ b x.2
 |_,_=>0
def aiK:Ty->Bool
 | .sl _=>false | .ptr _=>false | .arr _ _=>false | .mp=>false | .pair a b=>aiK a&&aiK b |_=>true
theorem Ss:∀ (t:Ty),aiK t=true->∀ x:t.I,aQ t x=0
 | .pair a b,h,x=>by simp only[aiK,ai] at h;simp[aQ,Ss a h.1,Ss b h.2]
 | .int _,_,_=>rfl
 | .bool,_,_=>rfl
 | .str,_,_=>rfl
 | .unit,_,_=>rfl
theorem xW (h:aiK t=true) (xs:List t.I):aQ (.sl t) xs=xs.length:=by
 have:∀ l:List t.I,(l.map (aQ t)).sum=0:=by
  intro l;induction l with
  |nil=>rfl
  |cons x r ih=>simp[ih,Ss t h]
 simp[aQ,this]
theorem eA {t:Ty} {xs:List t.I} {x:t.I} (h:x∈xs):aQ t x+xs.length<=aQ (.sl t) xs:=by
 have:∀ l:List t.I,x∈l->aQ t x<=(l.map (aQ t)).sum:=by
  intro l;induction l with
  |nil=>intro h;cases h
  |cons y r ih=>
  intro h;rcases aV.1 h with rfl |h
  ·simp
  have:=ih h;simp;omega
 have:=this xs h;simp only[aQ];omega
theorem cC (xs:List t.I):xs.length<=aQ (.sl t) xs:=by simp[aQ]
def G3 (left:Int) (s:Nat):Int:=if (s:Int)<=left then left - s else -1
theorem anC (h:0<=left):G3 left s<0↔left<s:=by unfold G3;split<;>omega
theorem anD (h:0<=left):(if G3 left a<0 then -1 else G3 (G3 left a) b)=G3 left (a+b):=by unfold G3;split<;>split<;>(try split)<;>omega
theorem Io (h:0<=left) (hl:left<=1048576) (hn: ¬G3 left s<0):0<=G3 left s/\G3 left s<=1048576:=by unfold G3 at*;split at hn<;>simp_all<;>omega
theorem als {α:Type} {g:α->Int->(Int->aa)->aa} {sz:α->Nat} {kf:Int->aa}:∀ (l:List α) (i:Nat) (s:Int),(∀ x∈l,∀ s k,0<=s->s<=1048576->g x s k=k (G3 s (sz x)))->0<=s->s<=1048576-> dI (λi x s next=>g x s (λr=>bif decide (r<(0:Int)) then kf (-1) else next r)) (λs=>kf s) l i s=kf (G3 s (l.map sz).sum)
 |[],i,s,_,h0,_=>by simp only[dI,od,List.sum_nil];congr 1;unfold G3;rw[aA (by simpa using h0)];simp
 |x::r,i,s,hg,h0,h1=>by
  simp only[dI];rw[hg x (by simp) s _ h0 h1];have ha:=anD (a:=sz x) (b:=(r.map sz).sum) h0;by_cases hn:G3 s (sz x)<0
  ·rw[af hn,ab,bq,fF,←ha,aA hn]
  obtain⟨b0,b1⟩:=Io h0 h1 hn;rw[ak hn,ae,als r (i+1) _ (λy hy=>hg y (by simp[hy])) b0 b1,bq,fF,←ha,aq hn]
theorem Su {α:Type} {g:α->(α->aa)->aa} {du:List α->aa}:∀ (l:List α) (i:Nat) (s:List α),(∀ x∈l,∀ k,g x k=k x)->s.length=i+l.length-> dI (λi x s next=>g x (λr=>bif bj (i:Int) (length s) then next (List.set s (toNat (i:Int)) r) else none)) (λs=>du s) l i s=du (s.take i++l)
 |[],i,s,_,h=>by simp only[dI,b6];rw[cB (by simp at h;omega)]
 |x::r,i,s,hg,h=>by
  simp only[dI];simp only[an] at h;rw[hg x (by simp)];rw[aJ (show i<s.length by omega),ab,aj,Su r (i+1) _ (λy hy=>hg y (by simp[hy])) (by simp;omega)];congr 1;rw[List.take_set,←iQ (l:=r),←bA];congr 1;rw[kT (by omega),jB _ _ (by simp;omega)];have:i - (s.take i).length=0:=by simp;omega
  rw[this];rfl
theorem Sv {α:Type} {body:Nat->α->aa->aa} {du:aa} {l:List α} (hb:∀ (i:Nat) (x:α) (next:aa) (h:i<l.length),l[i]=x->body i x next=next):∀ (r:List α) (i:Nat),l.drop i=r->A4 body du r i=du
 |[],_,_=>rfl
 |x::r,i,hd=>by have gU:i<l.length:=(by have:=bB length hd;simp at this;omega);rw[aY gU] at hd;injection hd with h1 h2;simp only[A4];rw[hb i x _ gU h1];exact Sv hb r (i+1) h2
theorem XJ {n:Nat} (h:n<=1048576):(decide ((n:Int)=(n:Int))&&decide ((0:Int)<=(n:Int))&&decide ((n:Int)<=1099511627776))=true:=by simp;omega
theorem XK {t:Ty} {xs:List t.I} (h:wf (.sl t) xs):xs.length<=maxLen:=h.1
theorem aT:maxLen=9223372036854775807:=by decide
theorem anE {left:Int} {n s:Nat} (h:0<=left - (n:Int)):G3 (left - (n:Int)) s=G3 left (n+s):=by unfold G3;split<;>split<;>omega
theorem ae2 (xs:List t.I):aQ (.sl t) xs=xs.length+(xs.map (aQ t)).sum:=by simp only[aQ]
def aDY {σ:Type} (F G:(σ->aa)->aa):Prop:=∃ v,(∀ kf,F kf=kf v)/\∀ kf,G kf=kf v
def allI {α:Type} (p:Nat->α->Bool):List α->Nat->Bool
 |[],_=>true
 |x::r,i=>p i x&&allI p r (i+1)
theorem uN {α:Type} {p:Nat->α->Bool}:∀ {l:List α} {i:Nat},allI p l i=true↔∀ (j:Nat) (h:j<l.length),p (i+j) l[j]=true
 |[],i=>by simp[allI]
 |x::r,i=>by
  simp only[allI,ai,uN (l:=r)];constructor
  ·intro ⟨h1,h2⟩ j hj;cases j with
   |zero=>exact h1
   |succ j=>have:=h2 j (by simpa using hj);rw[show i+(j+1)=i+1+j by omega];exact this
  intro h;refine⟨h 0 (by simp),λj hj=>?_⟩;have:=h (j+1) (by simpa using hj);rw[show i+1+j=i+(j+1) by omega];exact this
theorem om {α:Type} {body:Nat->α->aa->aa} {du kf:aa} {p:Nat->α->Bool} {l:List α} (hb:∀ (i:Nat) (x:α) (next:aa) (h:i<l.length),l[i]=x->body i x next=bif p i x then next else kf): ∀ (r:List α) (i:Nat),l.drop i=r->A4 body du r i=bif allI p r i then du else kf
 |[],_,_=>rfl
 |x::r,i,hd=>by have gU:i<l.length:=(by have:=bB length hd;simp at this;omega);rw[aY gU] at hd;injection hd with h1 h2;simp only[A4,allI];rw[hb i x _ gU h1,om hb r (i+1) h2];cases p i x<;>simp
theorem ae3 {α σ:Type} {body:Nat->α->σ->(σ->aa)->aa} {du:σ->aa} {g:Nat->α->σ->σ} {l:List α} (hb:∀ (i:Nat) (x:α) (s:σ) (next:σ->aa) (h:i<l.length),l[i]=x->body i x s next=next (g i x s)): ∀ (r:List α) (i:Nat) (s:σ),l.drop i=r->dI body du r i s=dI (λi x s next=>next (g i x s)) du r i s
 |[],_,_,_=>rfl
 |x::r,i,s,hd=>by have gU:i<l.length:=(by have:=bB length hd;simp at this;omega);rw[aY gU] at hd;injection hd with h1 h2;simp only[dI];rw[hb i x s _ gU h1,ae3 hb r (i+1) _ h2]
def foldI {α σ:Type} (g:Nat->α->σ->σ):List α->Nat->σ->σ
 |[],_,s=>s
 |x::r,i,s=>foldI g r (i+1) (g i x s)
theorem abN {α σ:Type} {g:Nat->α->σ->σ} {du:σ->aa}:∀ (r:List α) (i:Nat) (s:σ),dI (λi x s next=>next (g i x s)) du r i s=du (foldI g r i s)
 |[],_,_=>rfl
 |x::r,i,s=>by simp only[dI,foldI];exact abN r (i+1) _
theorem OD {α σ:Type} {body:Nat->α->σ->(σ->aa)->aa} {du:σ->aa} (g:Nat->α->σ->σ) {l:List α} {s:σ} (hb:∀ (i:Nat) (x:α) (s:σ) (next:σ->aa) (h:i<l.length),l[i]=x->body i x s next=next (g i x s)):
  dI body du l 0 s=du (foldI g l 0 s):=by rw[ae3 hb l 0 s rfl,abN]
def xX {α:Type} (p:α->Bool):List α->Nat->Option Nat
 |[],_=>none
 |x::r,i=>bif p x then some i else xX p r (i+1)
def pE (a b c:Int):Bool:=decide (b<=a)&&decide (a<=c)
theorem OE (h:0<=left) (hn: ¬G3 left a<0):G3 (G3 left a) b=G3 left (a+b):=by have:=anD (a:=a) (b:=b) h;rw[aq hn] at this;exact this
theorem OF (h:0<=left) (hn:G3 left a<0) (hab:a<=b):G3 left b=-1:=by have h1:=(anC (s:=a) h).1 hn;unfold G3;rw[aq (by omega)]
end Go.Pv
