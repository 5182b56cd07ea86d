/- The law over the plain functions. -/
import Derived.Test.YtpcoilhcgcpjmaaGreatDoorPlHz
set_option linter.unusedSimpArgs false
set_option linter.unusedVariables false
noncomputable section
namespace Go.Pv
open List Int IntKind
abbrev nb:= @BitVec.ofInt_natCast
abbrev om:= @BitVec.toNat_ofNat
abbrev az:= @Bool.not_true
abbrev qg:= @ByteArray.data_append
abbrev sF:= @ByteArray.ext
abbrev kC:= @Eq.trans
abbrev zG:= @Int.lt_irrefl
abbrev ux:= @Int.lt_trichotomy
abbrev lA:= @Int.natCast_add
abbrev oP:= @Int.tdiv_eq_ediv_of_nonneg
abbrev eh:= @Int.tmod_eq_emod_of_nonneg
abbrev zH:= @Go.Lib.index_one
abbrev gm:= @Go.Lib.toList_data
abbrev wQ:= @List.count_cons
abbrev pw:= @List.count_pos_iff
abbrev ao:= @List.length_nil
abbrev zI:= @List.map_take
abbrev nH:= @List.nodup_iff_count
abbrev gn:= @List.pairwise_iff_getElem
abbrev nc:= @List.set_append_right
abbrev iU:= @List.singleton_append
abbrev wR:= @Nat.le_of_lt_succ
abbrev wS:= @Nat.lt_or_eq_of_le
abbrev vV:= @Nat.mul_succ
abbrev oo:= @Nat.pow_succ
abbrev BW:= @Nat.sub_self
abbrev rn:= @UInt8.toNat_inj
abbrev qK:= @bne_iff_ne
abbrev eQ:= @bne_self_eq_false
end Go.Pv
namespace Go.Pv.R
open List Int IntKind
end Go.Pv.R
namespace Go.Pv.R
open List Int IntKind
theorem ju {N:Nat} {a b c:Int} {kf:Bool->aa}:cj N a b c kf=kf (pk a b c):=by unfold cj pk;by_cases h:b<=a<;>simp[h]
theorem eX {N:Nat} {a b c:Int} {kf:Bool->aa}:bq N a b c kf=kf (pk a b c):=by unfold bq pk;by_cases h:b<=a<;>simp[h]
end Go.Pv.R
namespace Go.Pv.R
open List Int IntKind
theorem aeJ (a:Int):(a.tmod 2147483647=a%2147483647/\0<=a)∨(a.tmod 2147483647=-((-a)%2147483647)/\a<0):=by
 rcases Int.lt_or_le a 0 with h |h
 ·right;refine⟨?_,h⟩;have h1:(-a).tmod 2147483647=(-a)%2147483647:=eh (by omega);rw[Int.neg_tmod] at h1;omega
 exact .inl ⟨eh h,h⟩
theorem aiF {N:Nat} {a:Int} {kf:Int->aa}:PO N a 2147483647 kf=kf (a%2147483647):=by
 unfold PO;rw[ju,show pk 2147483647 1 1000000000000=true from by decide];have e:(decide ((2147483647:Int)=0))=false:=by decide
 simp only[az,ae,e,bC,ab];congr 1;rcases aeJ a with⟨h,h'⟩ |⟨h,h'⟩<;>rw[h,iD,eh (by omega)]<;>omega
theorem aiG {N:Nat} {a:Int} {kf:Int->aa}:VM N a 2147483647 kf=kf (a%2147483647):=by
 unfold VM;rw[eX,show pk 2147483647 1 1000000000000=true from by decide];have e:(decide ((2147483647:Int)=0))=false:=by decide
 simp only[az,ae,e,bC,ab];rcases aeJ a with⟨h,h'⟩ |⟨h,h'⟩<;>rw[h]
 ·rw[il,ae]
 by_cases hz: -((-a)%2147483647)<0
 ·rw[af hz,ab,iD];congr 1;omega
 rw[an hz,ae];congr 1;omega
def foldM (i:Nat) (x s:Int):Int:=Int.tmod (wrap .i64 ((wrap .i64 ((wrap .i64 (s*(1000003:Int)))+x%2147483647))+(13:Int))) (2147483647:Int)
def ast (l:List Int):Int:=foldI foldM l 0 11
theorem agd {N:Nat} {l:List Int} {kf:Int->aa} (hl:l.length<=maxLen) (hN:l.length<N):Q7 N l kf=kf (ast l):=by unfold Q7;rw[aca hl hN,PJ foldM (λi x s next h e=>by rw[aiF];rfl)];rfl
theorem age {N:Nat} {l:List Int} {kf:Int->aa} (hl:l.length<=maxLen) (hN:l.length<N):Rb N l kf=kf (ast l):=by unfold Rb;rw[acb hl hN,PJ foldM (λi x s next h e=>by unfold Ra;rw[aiG];rfl)];rfl
def ZC (s:Int) (x:QL):Int:=ast [s,x.1,x.2.1,x.2.2.1]
theorem Oq {N:Nat} {s:Int} {x:QL} {kf:Int->aa} (hN:4<N):ud N s x kf=kf (ZC s x):=by unfold ud;rw[agd (by rw[aU];simp) (by simpa using hN)];rfl
theorem Mq {N:Nat} {s:Int} {x:QL} {kf:Int->aa} (hN:4<N):rU N s x kf=kf (ZC s x):=by unfold rU;rw[age (by rw[aU];simp) (by simpa using hN)];rfl
def aiH:List QL->Nat->Int->Bool
 |[],_,_=>true
 |x::r,i,s=>(x.1==((i+1:Nat):Int))&&pk x.2.1 1 9&&pk x.2.2.1 0 99&&(x.2.2.2==ZC s x)&&aiH r (i+1) x.2.2.2
def sG (l:List QL):Bool:=decide (l.length<=200)&&aiH l 0 0
theorem zJ {N:Nat} {l:List QL} {kf:Bool->aa} (hl:l.length<=maxLen) (hN:l.length<N) (h4:4<N):qG N l kf=kf (sG l):=by
 unfold qG;rw[P4 hl hN];by_cases hc:l.length<=200
 ·have h1:(decide ((l.length:Int)<=200))=true:=dZ;have key:∀ (r:List QL) (i:Nat) (s:Int),l.drop i=r->dU (λ(i:Nat) (x:QL) (aE:Int) (next:Int->aa)=>
    bif (decide ((length l:Int)<=(200:Int))) then
     ud N aE x (λ(SI:Int)=>
      bif (x.1 != (wrap .i64 ((i:Int)+(1:Int)))) then kf false
      else
       cj N x.2.1 (1:Int) (9:Int) (λ(aia:Bool)=>
        bif (!aia) then kf false
        else
         cj N x.2.2.1 (0:Int) (99:Int) (λ(Iu:Bool)=>
          bif (!Iu) then kf false
          else
           bif (x.2.2.2 != SI) then kf false
           else next SI)))
    else kf (decide ((length l:Int)<=(200:Int)))) (λ(aE:Int)=>kf (decide ((length l:Int)<=(200:Int)))) r i s=kf (aiH r i s):=by
   intro r
   induction r with
   |nil=>intro i s _;simp only[dU,aiH,h1]
   |cons x r ih=>
    intro i s hd
    have gC:i<l.length:=by have:=br length hd;simp at this;omega
    rw[aT gC] at hd
    injection hd with e1 e2
    simp only[dU,aiH]
    simp only[ih (i+1) _ e2]
    simp only[h1,ab,Oq h4,ju,sM gC hl]
    cases hx:(x.1==((i+1:Nat):Int)) with
    |false=>simp only[bne,hx,bC,ab,fi]
    |true=>
     simp only[bne,hx,az,ae,aA]
     cases pk x.2.1 1 9<;>simp
     cases pk x.2.2.1 0 99<;>simp
     by_cases hs:x.2.2.2=ZC s x
     ·simp[hs]
     ·have:(x.2.2.2==ZC s x)=false:=by simpa using hs
      simp[this]
  refine kC (key l 0 0 rfl) ?_;unfold sG;simp[hc]
 have h1:(decide ((l.length:Int)<=200))=false:=il;cases l with
 |nil=>simp at hc
 |cons x r=>simp only[dU,h1,ae];unfold sG;rw[an hc];rfl
theorem zK {N:Nat} {l:List QL} {kf:Bool->aa} (hl:l.length<=maxLen) (hN:l.length<N) (h4:4<N):qH N l kf=kf (sG l):=by
 unfold qH;by_cases hc:l.length<=200
 ·have h1:(decide ((l.length:Int)>200))=false:=il;rw[h1,ae,P7 hl hN];have key:∀ (r:List QL) (i:Nat) (s:Int),l.drop i=r->dU (λ(i:Nat) (x:QL) (de:Int) (next:Int->aa)=>
    bif (x.1 != (wrap .i64 ((i:Int)+(1:Int)))) then kf false
    else
     bq N x.2.1 (1:Int) (9:Int) (λ(VN:Bool)=>
      bif (!VN) then kf false
      else
       bq N x.2.2.1 (0:Int) (99:Int) (λ(aiu:Bool)=>
        bif (!aiu) then kf false
        else
         rU N de x (λ(SN:Int)=>
          bif (x.2.2.2 != SN) then kf false
          else next x.2.2.2)))) (λ(de:Int)=>kf true) r i s=kf (aiH r i s):=by
   intro r
   induction r with
   |nil=>intro i s _;simp only[dU,aiH]
   |cons x r ih=>
    intro i s hd
    have gC:i<l.length:=by have:=br length hd;simp at this;omega
    rw[aT gC] at hd
    injection hd with e1 e2
    simp only[dU,aiH]
    simp only[ih (i+1) _ e2]
    simp only[Mq h4,eX,sM gC hl]
    cases hx:(x.1==((i+1:Nat):Int)) with
    |false=>simp only[bne,hx,bC,ab,fi]
    |true=>
     simp only[bne,hx,az,ae,aA]
     cases pk x.2.1 1 9<;>simp
     cases pk x.2.2.1 0 99<;>simp
     by_cases hs:x.2.2.2=ZC s x
     ·simp[hs]
     ·have:(x.2.2.2==ZC s x)=false:=by simpa using hs
      simp[this]
  refine kC (key l 0 0 rfl) ?_;unfold sG;simp[hc]
 have h1:(decide ((l.length:Int)>200))=true:=dZ;rw[h1,ab];unfold sG;rw[an hc];rfl
end Go.Pv.R
namespace Go.Pv
open List Int IntKind
theorem acd {α:Type} {p:α->Bool}:∀ {l:List α} {i k:Nat},x9 p l i=some k->∃ j,∃ h:j<l.length,k=i+j/\p l[j]=true/\∀ j' (h':j'<j),p (l[j']'(by omega))=false
 |[],i,k,h=>by cases h
 |x::r,i,k,h=>by
  simp only[x9] at h;cases hp:p x with
  |true=>rw[hp] at h;injection h with h;exact⟨0,by simp,by omega,hp,λj' h'=>by omega⟩
  |false=>
  rw[hp] at h;obtain⟨j,hj,e,h1,h2⟩:=acd (l:=r) h;refine⟨j+1,by simpa using hj,by omega,h1,λj' h'=>?_⟩;cases j' with
  |zero=>exact hp
  |succ j'=>exact h2 j' (by omega)
theorem ace {α:Type} {p:α->Bool}:∀ {l:List α} {i:Nat},x9 p l i=none->∀ j (h:j<l.length),p l[j]=false
 |[],i,h,j,hj=>by simp at hj
 |x::r,i,h,j,hj=>by
  simp only[x9] at h;cases hp:p x with
  |true=>rw[hp] at h;cases h
  |false=>
  rw[hp] at h;cases j with
  |zero=>exact hp
  |succ j=>exact ace (l:=r) h j (by simpa using hj)
theorem BX {α:Type} {body:Nat->α->aa->aa} {dX:aa} {kf:Nat->aa} {p:α->Bool} (hb:∀ (i:Nat) (x:α) (next:aa),body i x next=bif p x then kf i else next):∀ (l:List α) (i:Nat),EO body dX l i=match x9 p l i with
  |some k=>kf k
  |none=>dX
 |[],_=>rfl
 |x::r,i=>by
  simp only[EO,x9]
  rw[hb]
  cases p x
  ·exact BX hb r (i+1)
  ·rfl
def uU {α:Type} (p:α->Bool) (l:List α):Int:=match x9 p l 0 with
 |some k=>(k:Int)
 |none=>-1
theorem fP {α:Type} {p:α->Bool} {l:List α} (h: ¬uU p l<0):∃ k:Nat,∃ hk:k<l.length,uU p l=(k:Int)/\p l[k]=true/\∀ j (hj:j<k),p (l[j]'(by omega))=false:=by
 unfold uU at*;split at h
 ·rename_i k hk;obtain⟨j,hj,e,h1,h2⟩:=acd hk;obtain rfl:k=j:=by omega
  exact⟨k,hj,rfl,h1,h2⟩
 omega
theorem Yp {α:Type} {p:α->Bool} {l:List α} (h:uU p l<0):uU p l=-1/\∀ j (hj:j<l.length),p l[j]=false:=by
 unfold uU at*;split at h
 ·omega
 rename_i hn;exact⟨rfl,ace hn⟩
theorem acf {α:Type} {p q:Nat->α->Bool}:∀ {l:List α} {i:Nat},allI (λi x=>p i x&&q i x) l i=(allI p l i&&allI q l i)
 |[],_=>rfl
 |x::r,i=>by simp only[allI,acf (l:=r)];cases p i x<;>cases q i x<;>cases allI p r (i+1)<;>simp
theorem alu {α:Type} {p q:Nat->α->Bool} {l:List α} (h:∀ (j:Nat) (hj:j<l.length),p j l[j]=q j l[j]):allI p l 0=allI q l 0:=by
 apply b7.2;rw[nN,nN];constructor
 ·intro h1 j hj;have:=h1 j hj;rw[aW] at*;rw[←h j hj];exact this
 intro h1 j hj;have:=h1 j hj;rw[aW] at*;rw[h j hj];exact this
theorem Mr {i m:Nat} (h0:0<i) (h:i<m) (hm:m<=maxLen):wrap .i64 ((i:Int) - 1)=((i - 1:Nat):Int):=by have:=aU;rw[wrap64]<;>omega
end Go.Pv
namespace Go.Pv.R
open List Int IntKind
abbrev bn:=QT
def bK (l:List bn) (id:Int):Int:=uU (λx:bn=>x.1==id) l
theorem fQ {N:Nat} {l:List bn} {id:Int} {kf:Int->aa} (hl:l.length<=maxLen) (hN:l.length<N):fj N l id kf=kf (bK l id):=by unfold fj;rw[T4 hl hN,BX (p:=λx:bn=>x.1==id) (kf:=λi=>kf (i:Int)) (λi x next=>rfl)];unfold bK uU;cases x9 (λx:bn=>x.1==id) l 0<;>rfl
theorem fR {N:Nat} {l:List bn} {id:Int} {kf:Int->aa} (hl:l.length<=maxLen) (hN:l.length<N):eF N l id kf=kf (bK l id):=by unfold eF jo;rw[uv hl hN];simp only[y5];rw[BX (p:=λx:bn=>x.1==id) (kf:=λi=>kf (i:Int)) (λi x next=>rfl)];unfold bK uU;cases x9 (λx:bn=>x.1==id) l 0<;>rfl
def IL (l:List Int) (n:Int):Int:=foldI (λi x s=>bif x==n then wrap .i64 (s+1) else s) l 0 0
theorem Ms {N:Nat} {l:List Int} {n:Int} {kf:Int->aa} (hl:l.length<=maxLen) (hN:l.length<N):rR N l n kf=kf (IL l n):=by unfold rR;rw[T5 hl hN,PJ (λi x s=>bif x==n then wrap .i64 (s+1) else s) (λi x s next h e=>by cases x==n<;>rfl)];rfl
theorem E4 {N:Nat} {l:List Int} {n:Int} {kf:Int->aa} (hl:l.length<=maxLen) (hN:l.length<N):qe N l n kf=kf (IL l n):=by unfold qe;rw[ZY hl hN,PJ (λi x s=>bif x==n then wrap .i64 (s+1) else s) (λi x s next h e=>by cases x==n<;>rfl)];rfl
abbrev bn.met (x:bn):List Int:=x.2.2.2.2.2
def xE (l:List bn) (i:Nat) (x:bn):Bool:=pk x.1 1 99&&(pk x.2.1 1 99&&(pk x.2.2.1 0 x.met.length&&(pk x.2.2.2.2.1 0 x.met.length&&(pk x.2.2.2.1 0 100000&&(decide (x.met.length<=20)&&(decide (i=0)||decide ((l.getD (i - 1) eZ).1<x.1)))))))
def adD (l:List bn) (x:bn) (id:Int):Bool:=!decide (bK l id<0)&&(!(id==x.1)&&(IL x.met id==IL (l.getD (bK l id).toNat eZ).met x.1))
def bB (l:List bn):Bool:=decide (l.length<=10)&&(allI (xE l) l 0&&allI (λ_ x=>x.met.all (adD l x)) l 0)
def agf (l:List bn) (i:Nat) (x:bn) (id:Int):Bool:=!decide (bK l id<0)&&(!(bK l id==(i:Int))&&(IL (l.getD (bK l id).toNat eZ).met x.1==IL x.met (l.getD (bK l id).toNat eZ).1))
theorem IM {α:Type} {p:α->Bool}:∀ {l:List α} {i:Nat},allI (λ_ x=>p x) l i=l.all p
 |[],_=>rfl
 |x::r,i=>by simp only[allI,lO,IM (l:=r)]
theorem Uh {l:List bn} (h:allI (xE l) l 0=true):∀ (j i:Nat) (hi:i<l.length),j<i->(l.getD j eZ).1<l[i].1:=by
 rw[nN] at h;have step:∀ (i:Nat) (hi:i<l.length),0<i->(l.getD (i - 1) eZ).1<l[i].1:=λi hi h0=>by have:=h i hi;rw[aW] at this;simp only[xE,ai,bd,au] at this;omega
 intro j i hi HB;induction i with
 |zero=>omega
 |succ i ih=>
 have h1:=step (i+1) hi (by omega);rw[pn,aO _ _ (show i<l.length by omega)] at h1;rcases wS (wR HB) with h2 |rfl
 ·have:=ih (by omega) h2;omega
 rw[aO _ _ (by omega)];exact h1
theorem acg {l:List bn} (h:allI (xE l) l 0=true) {i:Nat} (hi:i<l.length) {id:Int}:bK l id=(i:Int)↔id=l[i].1:=by
 constructor
 ·intro e;obtain⟨k,hk,e1,h1,_⟩:=fP (p:=λx:bn=>x.1==id) (l:=l) (by unfold bK at e;omega);unfold bK at e;obtain rfl:k=i:=by omega
  exact(bP.1 h1).symm
 rintro rfl;unfold bK;by_cases hn:uU (λx:bn=>x.1==l[i].1) l<0
 ·have:=(Yp hn).2 i hi;simp at this
 obtain⟨k,hk,e1,h1,h2⟩:=fP hn;rw[e1];have h1:l[k].1=l[i].1:=by simpa using h1
 rcases Nat.lt_trichotomy k i with gC |rfl |gC
 ·have:=Uh h k i hi gC;rw[aO _ _ hk] at this;omega
 ·rfl
 have:=h2 i gC;simp at this
theorem avo {l:List bn} (h:allI (xE l) l 0=true) {i:Nat} (hi:i<l.length) (id:Int):agf l i l[i] id=adD l l[i] id:=by
 unfold agf adD;by_cases hn:bK l id<0
 ·simp[hn]
 rw[an hn,bC,aA,aA];have e1:(bK l id==(i:Int))=(id==l[i].1):=by apply b7.2;rw[bP,bP];exact acg h hi
 rw[e1];obtain⟨k,hk,e2,h2,_⟩:=fP (p:=λx:bn=>x.1==id) hn;have e3:bK l id=(k:Int):=e2;rw[e3,aj,aO _ _ hk,show l[k].1=id by simpa using h2];congr 1;apply b7.2;rw[bP,bP];exact⟨λh=>h.symm,λh=>h.symm⟩
theorem aiI (l:List bn):(allI (λi x=>xE l i x&&x.met.all (agf l i x)) l 0&&decide (l.length<=10))=bB l:=by
 unfold bB;rw[acf];cases h:allI (xE l) l 0 with
 |false=>simp
 |true=>have:allI (λi x=>x.met.all (agf l i x)) l 0=allI (λ_ x=>x.met.all (adD l x)) l 0:=alu λj hj=>(by congr 1;funext id;exact avo h hj id);rw[this];cases decide (l.length<=10)<;>simp
theorem fS {N:Nat} {l:List bn} {kf:Bool->aa} (hl:l.length<=maxLen) (hm:∀ x∈l,x.met.length<=maxLen/\x.met.length<N) (hN:l.length<N):dV N l kf=kf (bB l):=by
 unfold dV;rw[T7 hl hN,ob (l:=l) (p:=λi x=>xE l i x&&x.met.all (agf l i x)) (kf:=kf false) (λi x next h e=>?_) l 0 rfl,←aiI]
 ·cases allI (λi x=>xE l i x&&x.met.all (agf l i x)) l 0
  ·rfl
  simp only[ab,aA];congr 1;apply b7.2;simp;omega
 have hx:x∈l:=by rw[←e];exact aK h
 obtain⟨m1,m2⟩:=hm x hx;have inner:fN N l (i:Int) x N next kf (0:Int)=bif x.met.all (agf l i x) then next else kf false:=by
  rw[T6 m1 m2,ob (l:=x.met) (p:=λ_ id=>agf l i x id) (kf:=kf false) (λj id next' hj ej=>?_) x.met 0 rfl,IM];rw[fQ hl hN];unfold agf;by_cases hn:bK l id<0
  ·simp[hn]
  rw[an hn,ae,bC,aA];cases hf:bK l id==(i:Int)
  ·obtain⟨k,hk,e2,h2,_⟩:=fP (p:=λx:bn=>x.1==id) hn;have e3:bK l id=(k:Int):=e2;obtain⟨q1,q2⟩:=hm l[k] (aK hk);rw[ae,e3,aL hk,ab,ab,aj,aO _ _ hk,Ms q1 q2,Ms m1 m2];cases hc:(IL l[k].met x.1==IL x.met l[k].1)<;>simp[bne,hc]
  simp
 have ord:∀ A B:aa,(bif (decide ((i:Int)>(0:Int))) then
   bif (bp (wrap .i64 ((i:Int) - (1:Int))) (length l)) then
    bif (decide ((getD l (toNat (wrap .i64 ((i:Int) - (1:Int)))) eZ).1≥x.1)) then A else B
   else none
  else B)=bif (decide (i=0)||decide ((l.getD (i - 1) eZ).1<x.1)) then B else A:=λA B=>by
  by_cases h0:i=0
  ·subst h0;simp
  ·rw[af (show(i:Int)>0 by omega),ab,Mr (by omega) h hl,aL (by omega),ab,aj,an h0,eK]
   by_cases hc:(l.getD (i - 1) eZ).1<x.1
   ·rw[il,af hc];rfl
   ·rw[dZ,an hc];rfl
 simp only[ju,inner,ord];unfold xE;cases pk x.1 1 99<;>simp;cases pk x.2.1 1 99<;>simp;cases pk x.2.2.1 0 x.met.length<;>simp;cases pk x.2.2.2.2.1 0 x.met.length<;>simp;cases pk x.2.2.2.1 0 100000<;>simp;by_cases ZD:x.met.length<=20
 ·rw[an (show ¬(20:Int)<(x.met.length:Int) by omega),af ZD];simp;cases (decide (i=0)||decide ((l[i - 1]?.getD eZ).1<x.1))<;>simp
 rw[af (show(20:Int)<(x.met.length:Int) by omega),an ZD];simp
theorem gR {N:Nat} {l:List bn} {kf:Bool->aa} (hl:l.length<=maxLen) (hm:∀ x∈l,x.met.length<=maxLen/\x.met.length<N) (hN:l.length<N):fY N l kf=kf (bB l):=by
 unfold fY
 by_cases h10:l.length<=10
 rotate_left
 ·rw[dZ,ab]
  unfold bB
  rw[an h10]
  rfl
 rw[il,ae]
 rw[Ub hl hN,ob (l:=l) (p:=λi x=>xE l i x&&x.met.all (adD l x)) (kf:=kf false) (λi x next h e=>?_) l 0 rfl]
 ·unfold bB
  rw[af h10,aA,acf]
  cases (allI (xE l) l 0&&allI (λ_ x=>x.met.all (adD l x)) l 0)<;>rfl
 ·have hx:x∈l:=by rw[←e];exact aK h
  obtain⟨m1,m2⟩:=hm x hx
  have inner:fX N l x l (length l:Int) (i:Int) x.2.2.2.2.2 (length x.2.2.2.2.2:Int) N next kf (0:Int)=bif x.met.all (adD l x) then next else kf false:=by
   rw[RP m1 m2,ob (l:=x.met) (p:=λ_ id=>adD l x id) (kf:=kf false) (λj id next' hj ej=>?_) x.met 0 rfl,IM]
   rw[fR hl hN]
   unfold adD
   by_cases hn:bK l id<0
   ·simp[hn]
   ·rw[an hn,ae,bC,aA]
    cases hf:id==x.1
    ·obtain⟨k,hk,e2,h2,_⟩:=fP (p:=λx:bn=>x.1==id) hn
     have e3:bK l id=(k:Int):=e2
     obtain⟨q1,q2⟩:=hm l[k] (aK hk)
     rw[ae,e3,aL hk,ab,aj,aO _ _ hk,E4 m1 m2,E4 q1 q2]
     cases hc:(IL x.met id==IL l[k].met x.1)<;>simp[bne,hc]
    ·simp
  have ord:∀ A B:aa,(bif (decide ((i:Int)>(0:Int))) then
    bif (bp (wrap .i64 ((i:Int) - (1:Int))) (length l)) then
     bif (decide (x.1<=(getD l (toNat (wrap .i64 ((i:Int) - (1:Int)))) eZ).1)) then A else B
    else none
   else B)=bif (decide (i=0)||decide ((l.getD (i - 1) eZ).1<x.1)) then B else A:=λA B=>by
   by_cases h0:i=0
   ·subst h0;simp
   ·rw[af (show(i:Int)>0 by omega),ab,Mr (by omega) h hl,aL (by omega),ab,aj,an h0,eK]
    by_cases hc:(l.getD (i - 1) eZ).1<x.1
    ·rw[il,af hc];rfl
    ·rw[dZ,an hc];rfl
  simp only[eX,inner,ord]
  unfold xE
  cases pk x.1 1 99<;>simp
  cases (decide (i=0)||decide ((l[i - 1]?.getD eZ).1<x.1))<;>simp
  cases pk x.2.1 1 99<;>simp
  by_cases ZD:x.met.length<=20
  ·rw[an (show ¬(20:Int)<(x.met.length:Int) by omega),af ZD]
   simp
   cases pk x.2.2.1 0 x.met.length<;>simp
   cases pk x.2.2.2.2.1 0 x.met.length<;>simp
   cases pk x.2.2.2.1 0 100000<;>simp
  ·rw[af (show(20:Int)<(x.met.length:Int) by omega),an ZD]
   simp
end Go.Pv.R
namespace Go.Pv
open List Int IntKind
def lF {α β:Type} (c:Nat->α->Bool) (f:Nat->α->β):List α->Nat->List β
 |[],_=>[]
 |x::r,i=>bif c i x then f i x::lF c f r (i+1) else lF c f r (i+1)
theorem rp {α β:Type} {c:Nat->α->Bool} {f:Nat->α->β}:∀ (l:List α) (i:Nat),(lF c f l i).length<=l.length
 |[],_=>aM _
 |x::r,i=>by simp only[lF];have:=rp (c:=c) (f:=f) r (i+1);cases c i x<;>simp<;>omega
theorem mT {α β:Type} {body:Nat->α->List β->(List β->aa)->aa} {dX:List β->aa} {c:Nat->α->Bool} {f:Nat->α->β} {l:List α} (hb:∀ (i:Nat) (x:α) (s:List β) (next:List β->aa) (h:i<l.length),l[i]=x->s.length<=i->body i x s next=bif c i x then next (s++[f i x]) else next s): ∀ (r:List α) (i:Nat) (s:List β),l.drop i=r->s.length<=i->dU body dX r i s=dX (s++lF c f r i)
 |[],i,s,_,_=>by simp[dU,lF]
 |x::r,i,s,hd,hs=>by
  have gC:i<l.length:=(by have:=br length hd;simp at this;omega);rw[aT gC] at hd;injection hd with h1 h2;simp only[dU,lF];rw[hb i x s _ gC h1 hs];cases c i x
  ·rw[ae,ae];exact mT hb r (i+1) s h2 (by omega)
  rw[ab,ab,mT hb r (i+1) (s++[f i x]) h2 (by simp;omega)];simp
theorem axE {a b k:Nat} (h:a+b<=4000000000000/k) (hk:0<k):decide ((a+b)*k<=4398046511104)=true:=by refine af ?_;have:=aC k h;have:=Nat.div_mul_le_self 4000000000000 k;omega
theorem aeK {α:Type} (p:α->Bool) (l:List α):decide (uU p l≥0)=l.any p:=by
 by_cases h:uU p l<0
 ·rw[il];symm;rw[cV];intro x hx;obtain⟨j,hj,rfl⟩:=bo.1 hx;rw[(Yp h).2 j hj];simp
 rw[dZ];symm;rw[dk];obtain⟨k,hk,_,h1,_⟩:=fP h;exact⟨l[k],aK hk,h1⟩
theorem Yq (n:Int):∀ (l:List Int) (i:Nat) (s:Nat),s+l.length<=maxLen->foldI (λ_ x s=>bif x==n then wrap .i64 (s+1) else s) l i (s:Int)=((s+l.count n:Nat):Int)
 |[],_,_,_=>by simp[foldI]
 |x::r,i,s,h=>by
  simp only[foldI,wQ];simp only[ak] at h;have:=aU;cases hx:x==n with
  |false=>simp only[ae];rw[Yq n r (i+1) s (by omega)];simp
  |true=>simp only[ab,dy];rw[iD,show((s:Int)+1)=((s+1:Nat):Int) by omega,Yq n r (i+1) (s+1) (by omega)];congr 1;omega
theorem ach {b:List Int} (hb:b.Nodup):∀ (a:List Int),(∀ x∈a,x∈b)->(b.map λx=>a.count x).sum=a.length
 |[],_=>by
  have:∀ l:List Int,(l.map λx=>([]:List Int).count x).sum=0:=by
   intro l;induction l with
   |nil=>rfl
   |cons x r ih=>rw[bz,pY,ih];simp
  rw[this];rfl
 |y::a,h=>by
  have ih:=ach hb a (λx hx=>h x (by simp[hx]));have hy:=h y (by simp);have key:∀ l:List Int,(l.map λx=>(y::a).count x).sum=(l.map λx=>a.count x).sum+l.count y:=by
   intro l;induction l with
   |nil=>rfl
   |cons x r ihl=>
   rw[bz,pY,ihl,bz,pY,wQ,wQ];by_cases hxy:y=x
   ·subst hxy;simp;omega
   have h1:(y==x)=false:=(by simpa using hxy);have h2:(x==y)=false:=(by simpa using λe=>hxy e.symm);rw[h1,h2];simp;omega
  rw[key,ih,ak];have:b.count y=1:=(by have h1:=pw.2 hy;have h2:=nH.1 hb y;omega);omega
theorem avp {b:List Int} {f:Int->Nat} (h1:∀ x∈b,f x<=1) (h2:(b.map f).sum=b.length):∀ x∈b,f x=1:=by
 have le:∀ l:List Int,(∀ x∈l,f x<=1)->(l.map f).sum<=l.length:=by
  intro l;induction l with
  |nil=>intro _;simp
  |cons x r ih=>intro h;have:=ih (λy hy=>h y (by simp[hy]));have:=h x (by simp);simp;omega
 induction b with
 |nil=>intro x hx;cases hx
 |cons y r ih=>
 have hr:=le r (λx hx=>h1 x (by simp[hx]));have hy:=h1 y (by simp);simp only[bz,pY,ak] at h2;intro x hx;rcases aS.1 hx with rfl |hx
 ·omega
 exact ih (λx hx=>h1 x (by simp[hx])) (by omega) x hx
theorem asu {a b:List Int} (hb:b.Nodup) (h:∀ x∈a,x∈b):(∀ x∈b,a.count x=1)↔a.Nodup/\a.length=b.length:=by
 have hs:=ach hb a h;constructor
 ·intro h1;refine⟨nH.2 λx=>?_,?_⟩
  ·by_cases hx:x∈a
   ·rw[h1 x (h x hx)];exact aM _
   rw[List.count_eq_zero_of_not_mem hx];omega
  have key:∀ l:List Int,(∀ x∈l,a.count x=1)->(l.map λx=>a.count x).sum=l.length:=by
   intro l;induction l with
   |nil=>intro _;rfl
   |cons x r ih=>intro h;simp[ih (λy hy=>h y (by simp[hy])),h x (by simp)];omega
  rw[key b h1] at hs;exact hs.symm
 intro ⟨h1,h2⟩;exact avp (λx _=>nH.1 h1 x) (by rw[hs,h2])
end Go.Pv
namespace Go.Pv.R
open List Int IntKind
abbrev c8:=QJ
abbrev ij:=LR
theorem Rl {l:List Int} {n:Int} (h:l.length<=maxLen):IL l n=(l.count n:Int):=by have:=Yq n l 0 0 (by omega);rw[aW] at this;exact this
def BY (l:List Int) (n:Int):Bool:=l.any λx=>x==n
theorem BZ {l:List Int} {n:Int}:BY l n=true↔n∈l:=by
 unfold BY;rw[dk];constructor
 ·rintro⟨x,hx,h⟩;have:x=n:=by simpa using h
  exact this▸hx
 intro h;exact⟨n,h,by simp⟩
theorem pI {N:Nat} {l:List Int} {n:Int} {kf:Bool->aa} (hl:l.length<=maxLen) (hN:l.length<N):eT N l n kf=kf (BY l n):=by
 unfold eT;rw[ZX hl hN,BX (p:=λx:Int=>x==n) (kf:=λ_=>kf true) (λi x next=>rfl)];unfold BY;rw[←aeK];unfold uU;cases x9 (λx:Int=>x==n) l 0
 ·rfl
 rw[af (by simp)]
theorem py {N:Nat} {l:List Int} {n:Int} {kf:Bool->aa} (hl:l.length<=maxLen) (hN:l.length<N):dB N l n kf=kf (BY l n):=by
 unfold dB nu;rw[Dj hl hN,BX (p:=λx:Int=>n==x) (kf:=λi=>kf (decide ((i:Int)≥0))) (λi x next=>rfl)];have e:BY l n=l.any λx=>n==x:=by unfold BY;congr 1;funext x;apply b7.2;rw[bP,bP];exact⟨λh=>h.symm,λh=>h.symm⟩
 rw[e,←aeK];unfold uU;cases x9 (λx:Int=>n==x) l 0<;>rfl
def gI (l:List c8) (id:Int):Int:=uU (λx:c8=>x.1==id) l
theorem Gk {N:Nat} {l:List c8} {id:Int} {kf:Int->aa} (hl:l.length<=maxLen) (hN:l.length<N):jf N l id kf=kf (gI l id):=by unfold jf;rw[VW hl hN,BX (p:=λx:c8=>x.1==id) (kf:=λi=>kf (i:Int)) (λi x next=>rfl)];unfold gI uU;cases x9 (λx:c8=>x.1==id) l 0<;>rfl
theorem uy {N:Nat} {l:List c8} {id:Int} {kf:Int->aa} (hl:l.length<=maxLen) (hN:l.length<N):dR N l id kf=kf (gI l id):=by unfold dR;rw[s9 hl hN];simp only[xt];rw[BX (p:=λx:c8=>x.1==id) (kf:=λi=>kf (i:Int)) (λi x next=>rfl)];unfold gI uU;cases x9 (λx:c8=>x.1==id) l 0<;>rfl
theorem Gm {N:Nat} {l:List c8} {id:Int} {kf:Int->aa} (hl:l.length<=maxLen) (hN:l.length<N):pr N l id kf=kf (gI l id):=by unfold pr jq;rw[uw hl hN];simp only[BM];rw[BX (p:=λx:c8=>x.1==id) (kf:=λi=>kf (i:Int)) (λi x next=>rfl)];unfold gI uU;cases x9 (λx:c8=>x.1==id) l 0<;>rfl
def aiJ (s:List Int):Bool:=allI (λi y=>pk y 1 99&&(decide (i=0)||decide (s.getD (i - 1) 0<y))) s 0
def IN (l:List c8) (i:Nat) (x:c8):Bool:=pk x.1 1 99&&(pk x.2.1 1 99&&((decide (i=0)||decide ((l.getD (i - 1) jy).1<x.1))&&aiJ x.2.2))
def fm (l:List c8):Bool:=decide (l.length<=10)&&allI (IN l) l 0
theorem alv {α:Type} {l:List α} {i:Nat} {z:α} {g:α->Int} {y:Int} {A B:aa} (hi:i<l.length) (hl:l.length<=maxLen):(bif (decide ((i:Int)>(0:Int))) then bif (bp (wrap .i64 ((i:Int) - (1:Int))) (length l)) then bif (decide (y<=g (getD l (toNat (wrap .i64 ((i:Int) - (1:Int)))) z))) then A else B else none else B)=bif (decide (i=0)||decide (g (l.getD (i - 1) z)<y)) then B else A:=by
 by_cases h0:i=0
 ·subst h0;simp
 rw[af (show(i:Int)>0 by omega),ab,Mr (by omega) hi hl,aL (by omega),ab,aj,an h0,eK];by_cases hc:g (l.getD (i - 1) z)<y
 ·rw[il,af hc];rfl
 rw[dZ,an hc];rfl
theorem am7 {α:Type} {l:List α} {i:Nat} {z:α} {g:α->Int} {y:Int} {A B:aa} (hi:i<l.length) (hl:l.length<=maxLen):(bif (decide ((i:Int)>(0:Int))) then bif (bp (wrap .i64 ((i:Int) - (1:Int))) (length l)) then bif (decide (g (getD l (toNat (wrap .i64 ((i:Int) - (1:Int)))) z)≥y)) then A else B else none else B)=bif (decide (i=0)||decide (g (l.getD (i - 1) z)<y)) then B else A:=alv hi hl
theorem B0 {N:Nat} {l:List c8} {kf:Bool->aa} (hl:l.length<=maxLen) (hm:∀ x∈l,x.2.2.length<=maxLen/\x.2.2.length<N) (hN:l.length<N):sQ N l kf=kf (fm l):=by
 unfold sQ;rw[RF hl hN,ob (l:=l) (p:=IN l) (kf:=kf false) (λi x next h e=>?_) l 0 rfl]
 ·unfold fm;cases allI (IN l) l 0
  ·simp
  simp only[ab,cM];congr 1;apply b7.2;simp;omega
 have hx:x∈l:=by rw[←e];exact aK h
 obtain⟨m1,m2⟩:=hm x hx;have inner:eM N l (i:Int) N next kf (0:Int)=bif aiJ x.2.2 then next else kf false:=by
  have hg:getD l (toNat (i:Int)) jy=x:=(by rw[aj,aO _ _ h,e]);rw[RE (aL h) (by rw[hg];exact m1) (by rw[hg];exact m2)];simp only[hg];rw[ob (l:=x.2.2) (p:=λi y=>pk y 1 99&&(decide (i=0)||decide (x.2.2.getD (i - 1) 0<y))) (kf:=kf false) (λj y next' hj ej=>?_) x.2.2 0 rfl]
  ·rfl
  rw[ju];have:=am7 (l:=x.2.2) (z:=(0:Int)) (g:=λx=>x) (y:=y) (A:=kf false) (B:=next') hj m1;rw[this];cases pk y 1 99<;>simp
 simp only[ju,inner];have ho:=λA B=>am7 (l:=l) (z:=jy) (g:=λx=>x.1) (y:=x.1) (A:=A) (B:=B) h hl;simp only[ho];unfold IN;cases pk x.1 1 99<;>simp;cases pk x.2.1 1 99<;>simp;cases (decide (i=0)||decide ((l[i - 1]?.getD jy).1<x.1))<;>simp
theorem B2 {N:Nat} {l:List c8} {kf:Bool->aa} (hl:l.length<=maxLen) (hm:∀ x∈l,x.2.2.length<=maxLen/\x.2.2.length<N) (hN:l.length<N):sZ N l kf=kf (fm l):=by
 unfold sZ
 by_cases h10:l.length<=10
 rotate_left
 ·rw[dZ,ab]
  unfold fm
  rw[an h10]
  rfl
 rw[il,ae]
 rw[RR hl hN,ob (l:=l) (p:=IN l) (kf:=kf false) (λi x next h e=>?_) l 0 rfl]
 ·unfold fm
  rw[af h10,aA]
  cases allI (IN l) l 0<;>rfl
 ·have hx:x∈l:=by rw[←e];exact aK h
  obtain⟨m1,m2⟩:=hm x hx
  have inner:fg N l x l (length l:Int) (i:Int) x.2.2 (length x.2.2:Int) N next kf (0:Int)=bif aiJ x.2.2 then next else kf false:=by
   rw[RQ m1 m2]
   rw[ob (l:=x.2.2) (p:=λi y=>pk y 1 99&&(decide (i=0)||decide (x.2.2.getD (i - 1) 0<y))) (kf:=kf false) (λj y next' hj ej=>?_) x.2.2 0 rfl]
   ·rfl
   ·rw[eX]
    have:=alv (l:=x.2.2) (z:=(0:Int)) (g:=λx=>x) (y:=y) (A:=kf false) (B:=next') hj m1
    rw[this]
    cases pk y 1 99<;>simp
  simp only[eX,inner]
  have ho:=λA B=>alv (l:=l) (z:=jy) (g:=λx=>x.1) (y:=x.1) (A:=A) (B:=B) h hl
  simp only[ho]
  unfold IN
  cases pk x.1 1 99<;>simp
  cases pk x.2.1 1 99<;>simp
  cases (decide (i=0)||decide ((l[i - 1]?.getD jy).1<x.1))<;>simp
def aci (l:List bn) (id:Int):Int:=(l.getD (bK l id).toNat eZ).2.1
def aDG (l:List bn) (id:Int):List Int:=(l.getD (bK l id).toNat eZ).met
def P' (l:List bn) (a b:Int):Bool:=decide (bK l a≥0)&&BY (aDG l a) b
def kD (l:List bn) (a b:Int):Bool:=bB l&&(decide (bK l a≥0)&&(decide (bK l b≥0)&&((bK l a != bK l b)&&((aci l a != aci l b)&& !P' l a b))))
theorem ta {l:List bn} {id:Int} (h:bK l id≥0):bp (bK l id) l.length=true/\(bK l id).toNat<l.length:=by obtain⟨k,hk,e,_⟩:=fP (p:=λx:bn=>x.1==id) (l:=l) (by unfold bK at h;omega);have e:bK l id=(k:Int):=e;rw[e];exact⟨aL hk,by simpa using hk⟩
theorem Z0 {N:Nat} {l:List bn} {a b:Int} {kf:Bool->aa} (hl:l.length<=maxLen) (hm:∀ x∈l,x.met.length<=maxLen/\x.met.length<N) (hN:l.length<N):HI N l a b kf=kf (P' l a b):=by
 unfold HI P';rw[fQ hl hN];by_cases h:bK l a≥0
 ·obtain⟨h1,h2⟩:=ta h;have hx:l.getD (bK l a).toNat eZ∈l:=(by rw[aO _ _ h2];exact aK h2);obtain⟨m1,m2⟩:=hm _ hx;rw[af h,ab,h1,ab,pI m1 m2];rfl
 rw[an h];rfl
theorem Z1 {N:Nat} {l:List bn} {a b:Int} {kf:Bool->aa} (hl:l.length<=maxLen) (hm:∀ x∈l,x.met.length<=maxLen/\x.met.length<N) (hN:l.length<N):HS N l a b kf=kf (P' l a b):=by
 unfold HS P';rw[fR hl hN];by_cases h:bK l a≥0
 ·obtain⟨h1,h2⟩:=ta h;have hx:l.getD (bK l a).toNat eZ∈l:=(by rw[aO _ _ h2];exact aK h2);obtain⟨m1,m2⟩:=hm _ hx;rw[af h,ab,h1,ab,py m1 m2];rfl
 rw[an h];rfl
theorem Ot {N:Nat} {l:List bn} {a b:Int} {kf:Bool->aa} (hl:l.length<=maxLen) (hm:∀ x∈l,x.met.length<=maxLen/\x.met.length<N) (hN:l.length<N):uf N l a b kf=kf (kD l a b):=by
 unfold uf kD
 rw[fQ hl hN,fQ hl hN,fS hl hm hN]
 cases bB l
 ·rfl
 by_cases ha:bK l a≥0
 rotate_left
 ·rw[an ha];rfl
 by_cases hb:bK l b≥0
 rotate_left
 ·rw[af ha,an hb];rfl
 rw[af ha,af hb,(ta ha).1,(ta hb).1,Z0 hl hm hN]
 simp only[ab,aA]
 cases bK l a != bK l b
 ·rfl
 unfold aci
 cases (l.getD (bK l a).toNat eZ).2.1 != (l.getD (bK l b).toNat eZ).2.1<;>rfl
theorem Ou {N:Nat} {l:List bn} {a b:Int} {kf:Bool->aa} (hl:l.length<=maxLen) (hm:∀ x∈l,x.met.length<=maxLen/\x.met.length<N) (hN:l.length<N):um N l a b kf=kf (kD l a b):=by
 unfold um kD
 rw[fR hl hN,fR hl hN,gR hl hm hN]
 cases bB l
 ·rfl
 by_cases ha:bK l a≥0
 rotate_left
 ·rw[an ha];rfl
 by_cases hb:bK l b≥0
 rotate_left
 ·rw[af ha,an hb];rfl
 rw[af ha,af hb,(ta ha).1,(ta hb).1,Z1 hl hm hN]
 simp only[ab,aA]
 cases bK l a != bK l b
 ·rfl
 unfold aci
 cases (l.getD (bK l a).toNat eZ).2.1 != (l.getD (bK l b).toNat eZ).2.1<;>rfl
def acj (t:List bn) (j:c8) (id:Int):Bool:=decide (bK t id≥0)&&((aci t id != j.2.1)&& !BY j.2.2 id)
def mI (t:List bn) (j:c8) (p:ij):Bool:=acj t j p.1&&acj t j p.2
theorem Es {N:Nat} {t:List bn} {j:c8} {p:ij} {kf:Bool->aa} (hl:t.length<=maxLen) (hN:t.length<N) (h1:j.2.2.length<=maxLen) (h2:j.2.2.length<N):pD N t j p kf=kf (mI t j p):=by
 unfold pD mI acj
 rw[fQ hl hN,fQ hl hN]
 by_cases ha:bK t p.1≥0
 rotate_left
 ·rw[an ha];rfl
 by_cases hb:bK t p.2≥0
 rotate_left
 ·rw[af ha,an hb];simp
 rw[af ha,af hb,(ta ha).1,(ta hb).1,pI h1 h2]
 simp only[pI h1 h2,ab,aA]
 unfold aci
 cases (t.getD (bK t p.1).toNat eZ).2.1 != j.2.1
 ·rfl
 cases (t.getD (bK t p.2).toNat eZ).2.1 != j.2.1
 ·simp
 cases BY j.2.2 p.1<;>simp
theorem Et {N:Nat} {t:List bn} {j:c8} {p:ij} {kf:Bool->aa} (hl:t.length<=maxLen) (hN:t.length<N) (h1:j.2.2.length<=maxLen) (h2:j.2.2.length<N) (h3:2<N):pG N t j p kf=kf (mI t j p):=by
 have key:∀ (id:Int) (next:aa),(eF N t id (λ(BA:Int)=>
     bif (decide (BA<(0:Int))) then
      kf false
     else
      bif (bp BA (length t)) then
       bif ((getD t (toNat BA) eZ).2.1==j.2.1) then
        kf false
       else
        dB N j.2.2 id (λ(PR:Bool)=>
         bif PR then
          kf false
         else
          next)
      else none))=bif acj t j id then next else kf false:=λid next=>by
  rw[fR hl hN]
  unfold acj
  by_cases ha:bK t id≥0
  rotate_left
  ·rw[an ha,dZ];rfl
  rw[af ha,il,(ta ha).1,py h1 h2]
  simp only[ab,ae,aA]
  unfold aci
  cases hc:(t.getD (bK t id).toNat eZ).2.1==j.2.1
  ·simp only[bne,hc,bC,aA,ae]
   cases BY j.2.2 id<;>rfl
  ·simp only[bne,hc,az,fi,ae,ab]
 unfold pG;rw[Ud (by rw[aU];simp) (by simpa using h3)];simp only[EO,key];unfold mI;cases acj t j p.1
 ·rfl
 simp;cases acj t j p.2<;>rfl
end Go.Pv.R
namespace Go.Pv.R
open List Int IntKind
theorem V1 {N:Nat} {l:List bn} {kf:Int->aa} (hl:l.length<=maxLen) (hm:∀ x∈l,x.met.length<=maxLen/\x.met.length<N) (hN:l.length<N):Bl N l kf=kf (bif bB l then foldI (λ_ (x:bn) s=>wrap .i64 (s+x.2.2.1)) l 0 0 else 0):=by
 unfold Bl;rw[RG hl hN];simp only[fS hl hm hN];cases bB l with
 |false=>cases l<;>rfl
 |true=>simp only[ab];rw[PJ (λ_ (x:bn) s=>wrap .i64 (s+x.2.2.1)) (λi x s next h e=>rfl)]
theorem V2 {N:Nat} {l:List bn} {kf:Int->aa} (hl:l.length<=maxLen) (hm:∀ x∈l,x.met.length<=maxLen/\x.met.length<N) (hN:l.length<N):BJ N l kf=kf (bif bB l then foldI (λ_ (x:bn) s=>wrap .i64 (s+x.2.2.1)) l 0 0 else 0):=by
 unfold BJ;rw[gR hl hm hN];cases bB l with
 |false=>rfl
 |true=>simp only[ab,az,ae];rw[RT hl hN,PJ (λ_ (x:bn) s=>wrap .i64 (s+x.2.2.1)) (λi x s next h e=>rfl)]
def IP (l:List bn):Int:=bif bB l then foldI (λ_ (x:bn) s=>wrap .i64 (s+x.2.2.1)) l 0 0 else 0
abbrev tc:=QB
def iB (b:tc):Bool:=pk b.1 1 99&&(pk b.2.1 0 100&&(pk b.2.2 0 100&&(b.2.1 != b.2.2)))
theorem Eu {N:Nat} {b:tc} {kf:Bool->aa}:pE N b kf=kf (iB b):=by unfold pE iB;simp only[ju];cases pk b.1 1 99<;>simp;cases pk b.2.1 0 100<;>simp;cases pk b.2.2 0 100<;>simp
theorem Ev {N:Nat} {b:tc} {kf:Bool->aa}:pH N b kf=kf (iB b):=by unfold pH iB;simp only[eX];cases pk b.1 1 99<;>simp;cases pk b.2.1 0 100<;>simp;cases pk b.2.2 0 100<;>simp
def sh (r:List ij):List Int:=r.flatMap λp=>[p.1,p.2]
def J4 (l:List bn):List Int:=l.map λx=>x.1
def wT (l:List bn) (r:List ij):Bool:=r.all (λp=>kD l p.1 p.2)&&l.all (λx=>decide ((sh r).count x.1=1))
theorem aoQ (r:List ij):(sh r).length=2*r.length:=by
 induction r with
 |nil=>rfl
 |cons p r ih=>simp only[sh,List.flatMap_cons,ax,ak,ao] at*;omega
theorem J5 {l:List bn} {a b:Int} (h:kD l a b=true):bB l=true/\a∈J4 l/\b∈J4 l/\a≠b:=by
 unfold kD at h;simp only[ai,au] at h;obtain⟨h0,ha,hb,wj,_⟩:=h;have mem:∀ id:Int,bK l id≥0->id∈J4 l:=λid hid=>by obtain⟨k,hk,_,h1,_⟩:=fP (p:=λx:bn=>x.1==id) (l:=l) (by unfold bK at hid;omega);exact cg.2 ⟨l[k],aK hk,by simpa using h1⟩
 refine⟨h0,mem a ha,mem b hb,λe=>?_⟩;subst e;simp at wj
theorem aiK {l:List bn} (h:bB l=true):(J4 l).Nodup:=by
 unfold bB at h;simp only[ai] at h;have hm:=Uh h.2.1;have key:∀ (n:Nat) (r:List bn),l.drop n=r->(r.map λx:bn=>x.1).Nodup:=by
  intro n r;induction r generalizing n with
  |nil=>intro _;exact gu
  |cons x r ih=>
  intro hd;have gC:n<l.length:=by have:=br length hd;simp at this;omega
  rw[aT gC] at hd;injection hd with h1 h2;rw[bz,ek];refine⟨λhx=>?_,ih (n+1) h2⟩;obtain⟨y,hy,e⟩:=cg.1 hx;rw[←h2] at hy;obtain⟨j,hj,rfl⟩:=bo.1 hy;rw[lW] at e;have hj':n+1+j<l.length:=(by simp at hj;omega);have:=hm n (n+1+j) hj' (by omega);rw[aO _ _ gC,h1] at this;omega
 exact key 0 l rfl
theorem Z2 {N:Nat} {l:List bn} {r:List ij} {kf:Bool->aa} (hl:l.length<=maxLen) (hm:∀ x∈l,x.met.length<=maxLen/\x.met.length<N) (hN:l.length<N) (hr:r.length<=1048576) (hrN:2*r.length<N):HT N l r kf=kf (wT l r):=by
 have hML:=aU;unfold HT;rw[VZ (by omega) (by omega)];have key:∀ (q:List ij) (i:Nat) (s:List Int) (dX:List Int->aa),r.drop i=q->s.length=2*i->dU (λ(i:Nat) (x:LR) (lv:List Int) (next:List Int->aa)=>
    um N l x.1 x.2 (λ(BA:Bool)=>
     bif (!BA) then
      kf false
     else
      bif (decide ((length lv+length [x.1,x.2])*1<=4398046511104)) then
       next (lv++[x.1,x.2])
      else none)) dX q i s=bif q.all (λp=>kD l p.1 p.2) then dX (s++sh q) else kf false:=by
  intro q
  induction q with
  |nil=>intro i s dX _ _;simp[dU,sh]
  |cons p q ih=>
   intro i s dX hd hs
   have gC:i<r.length:=by have:=br length hd;simp at this;omega
   rw[aT gC] at hd
   injection hd with h1 h2
   simp only[dU]
   rw[Ou hl hm hN]
   cases hmm:kD l p.1 p.2 with
   |false=>simp[hmm]
   |true=>
    have AQ:decide ((length s+length [p.1,p.2])*1<=4398046511104)=true:=af (by simp;omega)
    simp only[az,ae]
    rw[AQ,ab,ih (i+1) _ dX h2 (by simp;omega)]
    simp[hmm,sh]
 refine kC (key r 0 [] _ rfl (by simp)) ?_;unfold wT;cases tR:r.all (λp=>kD l p.1 p.2) with
 |false=>rfl
 |true=>
 have hlen:(sh r).length<=maxLen/\(sh r).length<N:=by rw[aoQ];omega
 rw[ab,bU,Uc hl hN,ob (l:=l) (p:=λ_ x=>decide ((sh r).count x.1=1)) (kf:=kf false) (λi x next h e=>?_) l 0 rfl,IM (p:=λx:bn=>decide ((sh r).count x.1=1))]
 ·simp only[aA];cases l.all λx=>decide ((sh r).count x.1=1)<;>rfl
 rw[E4 hlen.1 hlen.2,Rl hlen.1];by_cases h1:(sh r).count x.1=1
 ·simp[h1]
 have:(((sh r).count x.1:Int) != 1)=true:=by rw[qK];omega
 rw[this,an h1];rfl
theorem agh {l:List bn} {r:List ij}:(r.all (λp=>kD l p.1 p.2)&&(decide (sh r).Nodup&&(bB l&&decide ((sh r).length=l.length))))=wT l r:=by
 unfold wT;cases tR:r.all (λp=>kD l p.1 p.2) with
 |false=>rfl
 |true=>
 rw[aA,aA];rw[aJ] at tR;have adr:∀ x∈sh r,x∈J4 l:=λx hx=>by
  obtain⟨p,hp,hx⟩:=eD.1 hx;obtain⟨_,h1,h2,_⟩:=J5 (tR p hp);simp at hx;rcases hx with rfl |rfl
  ·exact h1
  exact h2
 cases ht:bB l with
 |true=>
 have:=asu (aiK ht) adr;apply b7.2;rw[aJ,aA,ai,au,au];rw[show(J4 l).length=l.length by simp[J4]] at this;rw[←this];constructor
 ·intro h x hx;exact af (h x.1 (cg.2 ⟨x,hx,rfl⟩))
 intro h x hx;obtain⟨y,hy,rfl⟩:=cg.1 hx;simpa using h y hy
 |false=>
  -- then there are no pairs,and there are teams
  cases r with
  |cons p r=>have:=(J5 (tR p (by simp))).1;rw[ht] at this;cases this
  |nil=>
   cases l with
   |nil=>simp[bB,allI] at ht
   |cons x l=>simp[sh]
theorem Z3 {N:Nat} {l:List bn} {r:List ij} {kf:Bool->aa} (hl:l.length<=maxLen) (hm:∀ x∈l,x.met.length<=maxLen/\x.met.length<N) (hN:l.length<N) (hr:r.length<=1048576) (hrN:2*r.length<N):HJ N l r kf=kf (wT l r):=by
 have hML:=aU;unfold HJ;rw[VU (by omega) (by omega)];have key:∀ (q:List ij) (i:Nat) (s:List Int) (dX:List Int->aa),r.drop i=q->s.length=2*i->s.Nodup->dU (λ(i:Nat) (x:LR) (bA:List Int) (next:List Int->aa)=>
    uf N l x.1 x.2 (λ(yd:Bool)=>
     bif (!yd) then
      kf false
     else
      eT N bA x.1 (λ(ya:Bool)=>
       bif ya then
        kf false
       else
        eT N bA x.2 (λ(aid:Bool)=>
         bif aid then
          kf false
         else
          bif (decide ((length bA+length [x.1,x.2])*1<=4398046511104)) then
           next (bA++[x.1,x.2])
          else none)))) dX q i s=bif q.all (λp=>kD l p.1 p.2)&&decide (s++sh q).Nodup then dX (s++sh q) else kf false:=by
  intro q
  induction q with
  |nil=>intro i s dX _ _ hnd;simp[dU,sh,hnd]
  |cons p q ih=>
   intro i s dX hd hs hnd
   have gC:i<r.length:=by have:=br length hd;simp at this;omega
   rw[aT gC] at hd
   injection hd with h1 h2
   simp only[dU]
   rw[Ot hl hm hN]
   cases hmm:kD l p.1 p.2 with
   |false=>simp[hmm]
   |true=>
    have wj:=(J5 hmm).2.2.2
    have ZS:s.length<=maxLen/\s.length<N:=by omega
    have aDH:s++sh (p::q)=(s++[p.1,p.2])++sh q:=by simp[sh]
    simp only[az,ae]
    rw[pI ZS.1 ZS.2]
    cases h1':BY s p.1 with
    |true=>
     have Io:=BZ.1 h1'
     have: ¬(s++sh (p::q)).Nodup:=λh=>by
      rw[ft] at h
      exact h.2.2 p.1 Io p.1 (by simp[sh]) rfl
     rw[an this]
     simp
    |false=>
     rw[ae,pI ZS.1 ZS.2]
     cases h2':BY s p.2 with
     |true=>
      have Io:=BZ.1 h2'
      have: ¬(s++sh (p::q)).Nodup:=λh=>by
       rw[ft] at h
       exact h.2.2 p.2 Io p.2 (by simp[sh]) rfl
      rw[an this]
      simp
     |false=>
      have AQ:decide ((length s+length [p.1,p.2])*1<=4398046511104)=true:=af (by simp;omega)
      have n1:p.1∉s:=λh=>by rw[BZ.2 h] at h1';cases h1'
      have n2:p.2∉s:=λh=>by rw[BZ.2 h] at h2';cases h2'
      have apK:(s++[p.1,p.2]).Nodup:=by
       rw[ft]
       refine⟨hnd,?_,?_⟩
       ·rw[ek]
        exact⟨by simpa using wj,by simp⟩
       ·intro a ha b hb e
        subst e
        simp at hb
        rcases hb with rfl |rfl
        ·exact n1 ha
        ·exact n2 ha
      rw[ae,AQ,ab,ih (i+1) _ dX h2 (by simp;omega) apK,aDH]
      simp[hmm]
 refine kC (key r 0 [] _ rfl (by simp) gu) ?_;rw[←agh];rw[bU];cases r.all (λp=>kD l p.1 p.2)
 ·rfl
 cases decide (sh r).Nodup
 ·rfl
 simp only[aA,ab];rw[fS hl hm hN];cases bB l
 ·rfl
 simp only[ab,aA];congr 1;apply b7.2;rw[bP,au];omega
theorem IQ {l:List c8} {id:Int} (h:gI l id≥0):bp (gI l id) l.length=true/\(gI l id).toNat<l.length:=by obtain⟨k,hk,e,_⟩:=fP (p:=λx:c8=>x.1==id) (l:=l) (by unfold gI at h;omega);have e:gI l id=(k:Int):=e;rw[e];exact⟨aL hk,by simpa using hk⟩
def Ov (t:List bn) (l:List c8) (r:List ij) (ids:List Int) (i:Nat):Bool:=decide (gI l (ids.getD i 0)≥0)&&(!BY (ids.take i) (ids.getD i 0)&&mI t (l.getD (gI l (ids.getD i 0)).toNat jy) (r.getD i lI))
def nA (t:List bn) (l:List c8) (r:List ij) (ids:List Int):Bool:=decide (ids.length=r.length)&&(fm l&&allI (λi _=>Ov t l r ids i) r 0)
theorem V3 {N:Nat} {t:List bn} {l:List c8} {r:List ij} {ids:List Int} {kf:Bool->aa} (ht:t.length<=maxLen) (htN:t.length<N) (hl:l.length<=maxLen) (hm:∀ x∈l,x.2.2.length<=maxLen/\x.2.2.length<N) (hN:l.length<N)
  (hr:r.length<=maxLen) (hrN:r.length<N):Bn N t l r ids kf=kf (nA t l r ids):=by
 unfold Bn nA
 by_cases hlen:ids.length=r.length
 rotate_left
 ·have:((ids.length:Int) != (r.length:Int))=true:=by rw[qK];omega
  rw[this,an hlen];rfl
 have:((ids.length:Int) != (r.length:Int))=false:=by rw[hlen];exact eQ _
 rw[this,af hlen,ae,B0 hl hm hN]
 cases fm l
 ·rfl
 simp only[az,ae,aA]
 rw[RH hr hrN,ob (l:=r) (p:=λi _=>Ov t l r ids i) (kf:=kf false) (λi x next h e=>?_) r 0 rfl]
 ·cases allI (λi _=>Ov t l r ids i) r 0<;>rfl
 ·have hi:i<ids.length:=by omega
  have asv:(decide ((0:Int)<=(0:Int))&&decide ((0:Int)<=(i:Int))&&decide ((i:Int)<=(length ids:Int)))=true:=by simp;omega
  rw[aL hi,ab,asv]
  simp only[aj,ab]
  rw[Gk hl hN]
  unfold Ov
  by_cases hf:gI l (ids.getD i 0)≥0
  rotate_left
  ·rw[an hf,dZ];rfl
  obtain⟨f1,f2⟩:=IQ hf
  have hx:l.getD (gI l (ids.getD i 0)).toNat jy∈l:=by rw[aO _ _ f2];exact aK f2
  obtain⟨m1,m2⟩:=hm _ hx
  rw[af hf,il,ae]
  have htk:(List.drop (toNat 0) (List.take i ids))=ids.take i:=rfl
  rw[htk,pI (by simp;omega) (by simp;omega),f1]
  cases BY (ids.take i) (ids.getD i 0)
  ·rw[ae,ab,Es ht htN m1 m2]
   have hrx:r.getD i lI=x:=by rw[aO _ _ h,e]
   rw[hrx]
   cases mI t (l.getD (gI l (ids.getD i 0)).toNat jy) x<;>rfl
  ·rfl
theorem V4 {N:Nat} {t:List bn} {l:List c8} {r:List ij} {ids:List Int} {kf:Bool->aa} (ht:t.length<=maxLen) (htN:t.length<N) (hl:l.length<=maxLen) (hm:∀ x∈l,x.2.2.length<=maxLen/\x.2.2.length<N) (hN:l.length<N)
  (hr:r.length<=maxLen) (hrN:r.length<N) (h2N:2<N):BI N t l r ids kf=kf (nA t l r ids):=by
 unfold BI nA
 rw[B2 hl hm hN]
 cases fm l
 ·simp
 simp only[az,ae,aA]
 by_cases hlen:ids.length=r.length
 rotate_left
 ·have:((ids.length:Int) != (r.length:Int))=true:=by rw[qK];omega
  rw[this,an hlen];rfl
 have:((ids.length:Int) != (r.length:Int))=false:=by rw[hlen];exact eQ _
 rw[this,af hlen,ae,aA]
 have tR:allI (λi _=>Ov t l r ids i) r 0=allI (λi _=>Ov t l r ids i) ids 0:=by
  apply b7.2
  rw[nN,nN]
  exact⟨λh j hj=>h j (by omega),λh j hj=>h j (by omega)⟩
 rw[tR,RS (by omega) (by omega),ob (l:=ids) (p:=λi _=>Ov t l r ids i) (kf:=kf false) (λi x next h e=>?_) ids 0 rfl]
 ·cases allI (λi _=>Ov t l r ids i) ids 0<;>rfl
 ·have hi:i<r.length:=by omega
  have asv:(decide ((0:Int)<=(0:Int))&&decide ((0:Int)<=(i:Int))&&decide ((i:Int)<=(length ids:Int)))=true:=by simp;omega
  have hid:ids.getD i 0=x:=by rw[aO _ _ h,e]
  rw[asv]
  simp only[aj,ab]
  rw[uy hl hN]
  unfold Ov
  rw[hid]
  by_cases hf:gI l x≥0
  rotate_left
  ·rw[an hf,dZ];rfl
  obtain⟨f1,f2⟩:=IQ hf
  have hx:l.getD (gI l x).toNat jy∈l:=by rw[aO _ _ f2];exact aK f2
  obtain⟨m1,m2⟩:=hm _ hx
  rw[af hf,il,ae]
  have htk:(List.drop (toNat 0) (List.take i ids))=ids.take i:=rfl
  rw[htk,py (by simp;omega) (by simp;omega),f1,aL hi]
  cases BY (ids.take i) x
  ·rw[ae,ab,ab,Et ht htN m1 m2 h2N]
   cases mI t (l.getD (gI l x).toNat jy) (r.getD i lI)<;>rfl
  ·rfl
end Go.Pv.R
namespace Go.Pv.R
open List Int IntKind
abbrev bE:=QC
structure cS (c:bE) (N:Nat):Prop where
 tl:c.1.length<=maxLen
 tm:∀ x:bn,x∈c.1->x.met.length<=maxLen/\x.met.length<N
 tN:c.1.length<N
 jl:c.2.1.length<=maxLen
 jm:∀ x∈c.2.1,x.2.2.length<=maxLen/\x.2.2.length<N
 jN:c.2.1.length<N
 rl:c.2.2.1.length<=1048576
 rN:2*c.2.2.1.length<N
 sl:c.2.2.2.1.length<=1048576
 sN:c.2.2.2.1.length<N
 bl:c.2.2.2.2.1.length<=1048576
 bN:c.2.2.2.2.1.length<N
 ml:c.2.2.2.2.2.1.length<=1048576
 mN:c.2.2.2.2.2.1.length<N
 n8:8<N
 tb:c.1.length<=1048700
 tmb:∀ x:bn,x∈c.1->x.met.length<=1048700
 jb:c.2.1.length<=1048700
 jmb:∀ x:c8,x∈c.2.1->x.2.2.length<=1048700
def IS (b:tc):Bool:=(decide ((b.1:Int)=0))&&((decide ((b.2.1:Int)=0))&&(decide ((b.2.2:Int)=0)))
def B3 (c:bE) (i:Nat) (b:tc):Bool:=IS b||(iB b&&(b.1==c.2.2.2.1.getD i 0))
def dm (c:bE):Bool:=bB c.1&&(fm c.2.1&&(sG c.2.2.2.2.2.1&&(decide (c.2.2.2.1.length=c.2.2.1.length)&&(decide (c.2.2.2.2.1.length=c.2.2.1.length)&& ((decide (c.2.2.1.length=0)||(wT c.1 c.2.2.1&&nA c.1 c.2.1 c.2.2.1 c.2.2.2.1))&&(allI (B3 c) c.2.2.2.2.1 0&&(pk c.2.2.2.2.2.2 0 1000&&(IP c.1==c.2.2.2.2.2.2))))))))
theorem asw {a b:Nat}:((a:Int) != (b:Int))=!decide (a=b):=by apply b7.2;simp;omega
theorem J6 {N:Nat} {c:bE} {kf:Bool->aa} (h:cS c N) (hs:c.2.2.2.1.length=c.2.2.1.length) (hb:c.2.2.2.2.1.length=c.2.2.1.length):BK N c kf=kf (allI (B3 c) c.2.2.2.2.1 0&&(pk c.2.2.2.2.2.2 0 1000&&(IP c.1==c.2.2.2.2.2.2))):=by
 have hm:=aU;have:=h.bl;unfold BK;rw[Yo (by omega) h.bN,ob (l:=c.2.2.2.2.1) (p:=B3 c) (kf:=kf false) (λi b next hi e=>?_) c.2.2.2.2.1 0 rfl]
 ·cases allI (B3 c) c.2.2.2.2.1 0
  ·rfl
  rw[ab,eX];cases pk c.2.2.2.2.2.2 0 1000
  ·rfl
  simp only[ab,aA];rw[V2 h.tl h.tm h.tN];rfl
 rw[Ev,aL (by omega),ab,aj];unfold B3 IS;cases (decide ((b.1:Int)=0))&&((decide ((b.2.1:Int)=0))&&(decide ((b.2.2:Int)=0)))
 ·simp only[bC,ab,eK];cases iB b
  ·rfl
  cases hc:b.1==c.2.2.2.1.getD i 0<;>simp only[bne,hc,az,bC,ab,ae,cM,dN]
 rfl
theorem J7 {N:Nat} {c:bE} {kf:Bool->aa} (h:cS c N) (hs:c.2.2.2.1.length=c.2.2.1.length) (hb:c.2.2.2.2.1.length=c.2.2.1.length):Bo N c kf=kf (allI (B3 c) c.2.2.2.2.1 0):=by
 have hm:=aU;have:=h.bl;unfold Bo;rw[Ym (by omega) h.bN,ob (l:=c.2.2.2.2.1) (p:=B3 c) (kf:=kf false) (λi b next hi e=>?_) c.2.2.2.2.1 0 rfl]
 ·cases allI (B3 c) c.2.2.2.2.1 0<;>rfl
 rw[Eu,aL (by omega),ab,aj];unfold B3 IS;cases (decide ((b.1:Int)=0))&&((decide ((b.2.1:Int)=0))&&(decide ((b.2.2:Int)=0)))
 ·simp only[bC,ab,eK];cases iB b
  ·rfl
  cases hc:b.1==c.2.2.2.1.getD i 0<;>simp only[bne,hc,az,bC,ab,ae,cM,dN]
 rfl
theorem td {N:Nat} {c:bE} {kf:Bool->aa} (h:cS c N):q9 N c kf=kf (dm c):=by
 have hm:=aU
 have hml:=h.ml
 have h8:=h.n8
 have hr:=h.rl
 have hrN:=h.rN
 unfold q9 dm
 rw[gR h.tl h.tm h.tN]
 cases bB c.1
 ·rfl
 simp only[az,ae,aA]
 rw[B2 h.jl h.jm h.jN]
 cases fm c.2.1
 ·rfl
 simp only[az,ae,aA]
 rw[zK (by omega) h.mN (by omega)]
 cases sG c.2.2.2.2.2.1
 ·rfl
 simp only[az,ae,aA,asw]
 by_cases hs:c.2.2.2.1.length=c.2.2.1.length
 rotate_left
 ·rw[an hs];rfl
 by_cases hb:c.2.2.2.2.1.length=c.2.2.1.length
 rotate_left
 ·rw[an hb,af hs];rfl
 rw[af hs,af hb]
 simp only[az,ae,aA]
 unfold iS
 by_cases h0:c.2.2.1.length=0
 ·rw[il]
  simp only[ae]
  rw[J6 h hs hb,af h0]
  rfl
 ·rw[dZ]
  simp only[ab]
  rw[Z2 h.tl h.tm h.tN h.rl h.rN,an h0]
  cases wT c.1 c.2.2.1
  ·rfl
  simp only[az,ae,aA,eK]
  rw[V4 h.tl h.tN h.jl h.jm h.jN (by omega) (by omega) (by omega)]
  cases nA c.1 c.2.1 c.2.2.1 c.2.2.2.1
  ·rfl
  simp only[az,ae,aA]
  exact J6 h hs hb
theorem wU {N:Nat} {c:bE} {kf:Bool->aa} (h:cS c N):tH N c kf=kf (dm c):=by
 have hm:=aU
 have hml:=h.ml
 have h8:=h.n8
 have hr:=h.rl
 have hrN:=h.rN
 unfold tH dm
 rw[fS h.tl h.tm h.tN]
 cases bB c.1
 ·rfl
 simp only[az,ae,aA]
 rw[B0 h.jl h.jm h.jN]
 cases fm c.2.1
 ·rfl
 simp only[az,ae,aA]
 rw[zJ (by omega) h.mN (by omega)]
 cases sG c.2.2.2.2.2.1
 ·rfl
 simp only[az,ae,aA,asw]
 by_cases hs:c.2.2.2.1.length=c.2.2.1.length
 rotate_left
 ·rw[an hs];rfl
 by_cases hb:c.2.2.2.2.1.length=c.2.2.1.length
 rotate_left
 ·rw[an hb,af hs];rfl
 rw[af hs,af hb]
 simp only[az,ae,aA,ju]
 cases pk c.2.2.2.2.2.2 0 1000
 ·simp
 simp only[az,ae,aA]
 rw[V1 h.tl h.tm h.tN]
 show(bif IP c.1 != c.2.2.2.2.2.2 then kf false else _)=_
 cases ht:IP c.1==c.2.2.2.2.2.2
 ·simp only[bne,ht,bC,ab,dN]
 simp only[bne,ht,az,ae,cM]
 by_cases h0:c.2.2.1.length=0
 ·rw[il,ae,J7 h hs hb,af h0]
  rfl
 ·rw[dZ,ab,Z3 h.tl h.tm h.tN h.rl h.rN,an h0]
  cases wT c.1 c.2.2.1
  ·rfl
  simp only[az,ae,aA,eK]
  rw[V3 h.tl h.tN h.jl h.jm h.jN (by omega) (by omega)]
  cases nA c.1 c.2.1 c.2.2.1 c.2.2.2.1
  ·rfl
  simp only[az,ae,aA]
  exact J7 h hs hb
theorem alw (m:List Int):allI (λi x=>!BY (m.take i) x) m 0=decide m.Nodup:=by
 have key:∀ (r:List Int) (n:Nat),m.drop n=r->(m.take n).Nodup->allI (λi x=>!BY (m.take i) x) r n=decide m.Nodup:=by
  intro r;induction r with
  |nil=>
  intro n hd hn;have:m.length<=n:=by have:=br length hd;simp at this;omega
  rw[cw this] at hn;simp[allI,hn]
  |cons x r ih=>
  intro n hd hn;have gC:n<m.length:=by have:=br length hd;simp at this;omega
  rw[aT gC] at hd;injection hd with h1 h2;simp only[allI];cases hh:BY (m.take n) x with
  |true=>have Io:=BZ.1 hh;have: ¬m.Nodup:=λh=>(by have e:m=m.take n++m.drop n:=(dS n m).symm;rw[e,ft] at h;exact h.2.2 x Io x (by rw[aT gC,h1];simp) rfl);rw[an this];rfl
  |false=>have hnm:x∉m.take n:=λh=>(by rw[BZ.2 h] at hh;cases hh);rw[bC,aA];refine ih (n+1) h2 ?_;rw[List.take_succ_eq_append_getElem gC,h1,ft];refine⟨hn,by simp,?_⟩;intro a ha b hb e;simp at hb;subst hb;subst e;exact hnm ha
 exact key m 0 rfl (by simp)
theorem aiL (m:List Int):(m.all λid=>decide (m.count id<=1))=decide m.Nodup:=by
 apply b7.2;rw[aJ,au,nH];constructor
 ·intro h x;by_cases hx:x∈m
  ·simpa using h x hx
  rw[List.count_eq_zero_of_not_mem hx];omega
 intro h x hx;simpa using h x
def zL (c:bE):Bool:=c.1.all λx:bn=>decide x.met.Nodup
theorem V5 {N:Nat} {c:bE} {kf:Bool->aa} (h:cS c N):Bv N c kf=kf (zL c):=by
 unfold Bv;rw[RM h.tl h.tN,ob (l:=c.1) (p:=λ_ (x:bn)=>decide x.met.Nodup) (kf:=kf false) (λi x next hi e=>?_) c.1 0 rfl,IM (p:=λx:bn=>decide x.met.Nodup)]
 ·unfold zL;cases c.1.all λx:bn=>decide x.met.Nodup<;>rfl
 obtain⟨m1,m2⟩:=h.tm x (by rw[←e];exact aK hi);rw[RL m1 m2,ob (l:=x.met) (p:=λi y=>!BY (x.met.take i) y) (kf:=kf false) (λj y next' hj ej=>?_) x.met 0 rfl,alw];have asv:(decide ((0:Int)<=(0:Int))&&decide ((0:Int)<=(j:Int))&&decide ((j:Int)<=(length x.2.2.2.2.2:Int)))=true:=by have:j<x.2.2.2.2.2.length:=hj;simp;omega
 rw[asv,ab,aj];have htk:(List.drop (toNat 0) (List.take j x.2.2.2.2.2))=x.met.take j:=rfl;rw[htk,pI (by rw[aH];omega) (by rw[aH];omega)];cases BY (x.met.take j) y<;>rfl
theorem V6 {N:Nat} {c:bE} {kf:Bool->aa} (h:cS c N):BR N c kf=kf (zL c):=by
 unfold BR;rw[RX h.tl h.tN,ob (l:=c.1) (p:=λ_ (x:bn)=>decide x.met.Nodup) (kf:=kf false) (λi x next hi e=>?_) c.1 0 rfl,IM (p:=λx:bn=>decide x.met.Nodup)]
 ·unfold zL;cases c.1.all λx:bn=>decide x.met.Nodup<;>rfl
 obtain⟨m1,m2⟩:=h.tm x (by rw[←e];exact aK hi);rw[RW m1 m2,ob (l:=x.met) (p:=λ_ id=>decide (x.met.count id<=1)) (kf:=kf false) (λj y next' hj ej=>?_) x.met 0 rfl,IM (p:=λid:Int=>decide (x.met.count id<=1)),aiL];rw[E4 m1 m2,Rl m1];by_cases hc:x.met.count y<=1
 ·rw[il,af hc];rfl
 rw[dZ,an hc];rfl
def alx (c:bE) (i:Nat) (p:ij):Bool:=decide (i<c.2.2.2.1.length)&&(decide (gI c.2.1 (c.2.2.2.1.getD i 0)≥0)&&mI c.1 (c.2.1.getD (gI c.2.1 (c.2.2.2.1.getD i 0)).toNat jy) p)
def zM (c:bE):Bool:=allI (alx c) c.2.2.1 0
theorem R2 {N:Nat} {c:bE} {kf:Bool->aa} (h:cS c N):xm N c kf=kf (zM c):=by
 have hm:=aU;have hr:=h.rl;have hrN:=h.rN;unfold xm zM;rw[O1 (by omega) (by omega),ob (l:=c.2.2.1) (p:=alx c) (kf:=kf false) (λi p next hi e=>?_) c.2.2.1 0 rfl]
 ·cases allI (alx c) c.2.2.1 0<;>rfl
 ·unfold alx
  by_cases hs:i<c.2.2.2.1.length
  rotate_left
  ·rw[an hs,dZ];rfl
  rw[af hs,il,ae,aL hs,ab,aj,Gk h.jl h.jN]
  by_cases hf:gI c.2.1 (c.2.2.2.1.getD i 0)≥0
  rotate_left
  ·rw[an hf,dZ];rfl
  obtain⟨f1,f2⟩:=IQ hf
  obtain⟨m1,m2⟩:=h.jm (c.2.1.getD (gI c.2.1 (c.2.2.2.1.getD i 0)).toNat jy) (by rw[aO _ _ f2];exact aK f2)
  rw[af hf,il,ae,f1,ab,Es h.tl h.tN m1 m2]
  cases mI c.1 (c.2.1.getD (gI c.2.1 (c.2.2.2.1.getD i 0)).toNat jy) p<;>rfl
theorem R3 {N:Nat} {c:bE} {kf:Bool->aa} (h:cS c N):xv N c kf=kf (zM c):=by
 have hm:=aU;have hr:=h.rl;have hrN:=h.rN;have h8:=h.n8;unfold xv zM;rw[O7 (by omega) (by omega),ob (l:=c.2.2.1) (p:=alx c) (kf:=kf false) (λi p next hi e=>?_) c.2.2.1 0 rfl]
 ·cases allI (alx c) c.2.2.1 0<;>rfl
 ·unfold alx
  by_cases hs:i<c.2.2.2.1.length
  rotate_left
  ·rw[an hs,dZ];rfl
  rw[af hs,il,ae,aL hs,ab,aj,Gm h.jl h.jN]
  by_cases hf:gI c.2.1 (c.2.2.2.1.getD i 0)≥0
  rotate_left
  ·rw[an hf,dZ];rfl
  obtain⟨f1,f2⟩:=IQ hf
  obtain⟨m1,m2⟩:=h.jm (c.2.1.getD (gI c.2.1 (c.2.2.2.1.getD i 0)).toNat jy) (by rw[aO _ _ f2];exact aK f2)
  rw[af hf,il,ae,f1,ab,Et h.tl h.tN m1 m2 (by omega)]
  cases mI c.1 (c.2.1.getD (gI c.2.1 (c.2.2.2.1.getD i 0)).toNat jy) p<;>rfl
def dw (c:bE):List Int:=lF (λ_ b=>IS b) (λi _=>(i:Int)) c.2.2.2.2.1 0
theorem zd {N:Nat} {c:bE} {kf:List Int->aa} (h:cS c N):qZ N c kf=kf (dw c):=by
 have hm:=aU;have:=h.bl;unfold qZ;rw[VX (by omega) h.bN,mT (l:=c.2.2.2.2.1) (c:=λ_ b=>IS b) (f:=λi _=>(i:Int)) (λi b s next hi e hs=>?_) c.2.2.2.2.1 0 [] rfl (by simp),bU]
 ·rfl
 have AQ:decide ((length s+length [(i:Int)])*1<=4398046511104)=true:=af (by simp;omega);rw[AQ,ab];rfl
theorem ze {N:Nat} {c:bE} {kf:List Int->aa} (h:cS c N):pv N c kf=kf (dw c):=by
 have hm:=aU;have:=h.bl;unfold pv;rw[V0 (by omega) h.bN,mT (l:=c.2.2.2.2.1) (c:=λ_ b=>IS b) (f:=λi _=>(i:Int)) (λi b s next hi e hs=>?_) c.2.2.2.2.1 0 [] rfl (by simp),bU]
 ·rfl
 have AQ:decide ((length s+length [(i:Int)])*1<=4398046511104)=true:=af (by simp;omega);rw[AQ,ab];rfl
def Qa (l:List QL):Nat:=(l.filter λx=>x.2.1==4).length
theorem ack:∀ (l:List QL) (i s:Nat),s+l.length<=maxLen->foldI (λ_ (x:QL) s=>bif x.2.1==4 then wrap .i64 (s+1) else s) l i (s:Int)=((s+Qa l:Nat):Int)
 |[],_,_,_=>by simp[foldI,Qa]
 |x::r,i,s,h=>by
  have:=aU;simp only[ak] at h;simp only[foldI,Qa,fv];cases hx:x.2.1==4 with
  |false=>simp only[ae];exact ack r (i+1) s (by omega)
  |true=>simp only[ab,dy,ak];rw[iD,show((s:Int)+1)=((s+1:Nat):Int) by omega,ack r (i+1) (s+1) (by omega)];unfold Qa;congr 1;omega
theorem asx (l:List QL):Qa l<=l.length:=List.length_filter_le _ _
theorem Ui:∀ (l:List QL) (i:Nat) (s:Int),-4000000+l.length<=s->s<=4000000->foldI (λ_ (x:QL) s=>bif x.2.1==4 then wrap .i64 (s - 1) else s) l i s=s - Qa l
 |[],_,_,_,_=>by simp[foldI,Qa]
 |x::r,i,s,h,h'=>by
  simp only[ak] at h;simp only[foldI,Qa,fv];cases hx:x.2.1==4 with
  |false=>simp only[ae];exact Ui r (i+1) s (by omega) h'
  |true=>simp only[ab,dy,ak];rw[iD,Ui r (i+1) (s - 1) (by omega) (by omega)];unfold Qa;omega
def IT (c:bE):Bool:=sG c.2.2.2.2.2.1&&(pk c.2.2.2.2.2.2 0 1000&&decide ((Qa c.2.2.2.2.2.1:Int)=c.2.2.2.2.2.2+c.2.2.2.2.1.length - (dw c).length))
theorem mv {a b c:Int}:pk a b c=true↔b<=a/\a<=c:=by unfold pk;simp
theorem V7 {N:Nat} {c:bE} {kf:Bool->aa} (h:cS c N):Bw N c kf=kf (IT c):=by
 have hm:=aU;have hml:=h.ml;have hbl:=h.bl;have h8:=h.n8;have hwl:(dw c).length<=c.2.2.2.2.1.length:=rp _ _;unfold Bw;rw[RN (by omega) h.mN,PJ (λ_ (x:QL) s=>bif x.2.1==4 then wrap .i64 (s+1) else s) (λi x s next hi e=>by cases x.2.1==4<;>rfl)];have hf:=ack c.2.2.2.2.2.1 0 0 (by omega);rw[aW] at hf;have hf:foldI (λ_ (x:QL) s=>bif x.2.1==4 then wrap .i64 (s+1) else s) c.2.2.2.2.2.1 0 (0:Int)=(Qa c.2.2.2.2.2.1:Int):=hf;rw[hf,zJ (by omega) h.mN (by omega)];unfold IT;cases sG c.2.2.2.2.2.1
 ·rfl
 simp only[ab,aA,ju];cases hp:pk c.2.2.2.2.2.2 0 1000
 ·rfl
 obtain⟨p1,p2⟩:=mv.1 hp;simp only[ab,aA];rw[zd h,iD (n:=c.2.2.2.2.2.2+_),iD];rfl
theorem V8 {N:Nat} {c:bE} {kf:Bool->aa} (h:cS c N):BS N c kf=kf (IT c):=by
 have hm:=aU;have hml:=h.ml;have hbl:=h.bl;have h8:=h.n8;have hwl:(dw c).length<=c.2.2.2.2.1.length:=rp _ _;unfold BS;rw[ze h];rw[RY (by omega) h.mN,PJ (λ_ (x:QL) s=>bif x.2.1==4 then wrap .i64 (s - 1) else s) (λi x s next hi e=>by cases x.2.1==4<;>rfl),zK (by omega) h.mN (by omega)];unfold IT;cases sG c.2.2.2.2.2.1
 ·rfl
 simp only[ab,aA,eX];cases hp:pk c.2.2.2.2.2.2 0 1000
 ·rfl
 obtain⟨p1,p2⟩:=mv.1 hp;have XZ:=asx c.2.2.2.2.2.1;simp only[ab,aA];rw[iD (n:=c.2.2.2.2.2.2+_),iD,Ui _ _ _ (by omega) (by omega)];congr 1;apply b7.2;rw[bP,au];omega
def Z4 (g:bn->Int) (l:List bn):Int:=foldI (λ_ (x:bn) s=>wrap .i64 (s+g x)) l 0 0
theorem Yr {g1 g2 g3:bn->Int} {k:Int->Int->Int->aa}:∀ (l:List bn) (i:Nat) (a b c:Int),ah6 (λ(i:Nat) (x:bn) (a b c:Int) (next:Int->Int->Int->aa)=>next (wrap .i64 (a+g1 x)) (wrap .i64 (b+g2 x)) (wrap .i64 (c+g3 x))) k l i a b c= k (foldI (λ_ (x:bn) s=>wrap .i64 (s+g1 x)) l i a) (foldI (λ_ (x:bn) s=>wrap .i64 (s+g2 x)) l i b) (foldI (λ_ (x:bn) s=>wrap .i64 (s+g3 x)) l i c)
 |[],_,_,_,_=>rfl
 |x::r,i,a,b,c=>by simp only[ah6,foldI];exact Yr r (i+1) _ _ _
def IU (c:bE):Bool:=bB c.1&&((wrap .i64 (2*Z4 (λx=>x.2.2.1) c.1)==Z4 (λx:bn=>(x.met.length:Int)) c.1)&&(wrap .i64 (2*Z4 (λx=>x.2.2.2.2.1) c.1)==Z4 (λx:bn=>(x.met.length:Int)) c.1))
theorem V9 {N:Nat} {c:bE} {kf:Bool->aa} (h:cS c N):Bx N c kf=kf (IU c):=by
 unfold Bx;rw[RO h.tl h.tN];simp only[fS h.tl h.tm h.tN];unfold IU;cases bB c.1 with
 |false=>cases c.1<;>rfl
 |true=>simp only[ab,aA];refine kC (Yr (g1:=λx:bn=>(x.met.length:Int)) (g2:=λx=>x.2.2.1) (g3:=λx=>x.2.2.2.2.1) c.1 0 0 0 0) ?_;show(bif wrap .i64 (2*Z4 (λx=>x.2.2.1) c.1)==Z4 (λx:bn=>(x.met.length:Int)) c.1 then _ else _)=_;cases wrap .i64 (2*Z4 (λx=>x.2.2.1) c.1)==Z4 (λx:bn=>(x.met.length:Int)) c.1<;>rfl
theorem V' {N:Nat} {c:bE} {kf:Bool->aa} (h:cS c N):BT N c kf=kf (IU c):=by
 unfold BT;rw[RZ h.tl h.tN];simp only[gR h.tl h.tm h.tN];refine kC (Yr (g1:=λx=>x.2.2.1) (g2:=λx=>x.2.2.2.2.1) (g3:=λx:bn=>(x.met.length:Int)) c.1 0 0 0 0) ?_;unfold IU;cases bB c.1 with
 |false=>rfl
 |true=>simp only[ab,aA];show(bif wrap .i64 (2*Z4 (λx=>x.2.2.1) c.1)==Z4 (λx:bn=>(x.met.length:Int)) c.1 then _ else _)=_;cases wrap .i64 (2*Z4 (λx=>x.2.2.1) c.1)==Z4 (λx:bn=>(x.met.length:Int)) c.1<;>rfl
theorem agi {N:Nat} {c:bE} (h:cS c N):aDr (By N c) (BU N c):=by
 refine⟨bif !zL c then Yd else bif !zM c then yV else bif !IT c then Ye else bif !IU c then aq2 else bif !dm c then Bj else D9,λkf=>?_,λkf=>?_⟩
 ·unfold By;simp only[V5 h,R2 h,V7 h,V9 h,wU h];cases zL c<;>cases zM c<;>cases IT c<;>cases IU c<;>cases dm c<;>rfl
 unfold BU;simp only[V6 h,R3 h,V8 h,V' h,td h];cases zL c<;>cases zM c<;>cases IT c<;>cases IU c<;>cases dm c<;>rfl
end Go.Pv.R
namespace Go.Pv
open List Int IntKind
end Go.Pv
namespace Go.Pv.R
open List Int IntKind
end Go.Pv.R
namespace Go.Pv.R
open List Int IntKind
theorem aeL (c:bE):(dw c).length<=c.2.2.2.2.1.length:=rp _ _
end Go.Pv.R
namespace Go.Pv.R
open List Int IntKind
theorem ZE {α:Type}:∀ (l:List α) (i:Nat),lF (λ_ _=>true) (λ_ x=>x) l i=l
 |[],_=>rfl
 |x::r,i=>by simp only[lF,ab];rw[ZE r (i+1)]
theorem Rm {α:Type} {body:Nat->α->List α->(List α->aa)->aa} {dX:List α->aa} {l:List α} (hb:∀ (i:Nat) (x:α) (s:List α) (next:List α->aa) (h:i<l.length),l[i]=x->s.length<=i->body i x s next=next (s++[x])):dU body dX l 0 []=dX l:=by rw[mT (l:=l) (c:=λ_ _=>true) (f:=λ_ x=>x) (λi x s next h e hs=>by rw[hb i x s next h e hs];rfl) l 0 [] rfl (by simp),ZE,bU]
theorem Mt {α:Type} {l:List α} {b:Bool} {kf:List α->aa} (hb:b=true): (bif List.isEmpty l then both (kf []) (bif b then kf ([]++l) else none) else bif b then kf ([]++l) else none)=kf l:=by
 subst hb;cases l with
 |nil=>exact H4 _
 |cons x r=>rfl
theorem agj {N:Nat} {l:List Int} {kf:List Int->aa} (hl:l.length<=1048700):S68 N l kf=kf l:=by exact Mt (af (by simp only[ao];omega))
theorem azI {N:Nat} {l:List LR} {kf:List LR->aa} (hl:l.length<=1048576):S67 N l kf=kf l:=Mt (af (by simp only[ao];omega))
theorem azJ {N:Nat} {l:List QB} {kf:List QB->aa} (hl:l.length<=1048576):S69 N l kf=kf l:=Mt (af (by simp only[ao];omega))
theorem aly {N:Nat} {l:List QL} {kf:List QL->aa} (hl:l.length<=1048576):S70 N l kf=kf l:=Mt (af (by simp only[ao];omega))
theorem oQ {N:Nat} {l:List bn} {kf:List bn->aa} (hl:l.length<=1048700) (hm:∀ x:bn,x∈l->x.met.length<=1048700) (hN:l.length<N):lY N l kf=kf l:=by
 have h0:=aU;unfold lY;rw[VS (by omega) hN];refine Rm (l:=l) λi x s next h e hs=>?_
 have hx:x∈l:=by rw[←e];exact aK h
 have hxm:x.2.2.2.2.2.length<=1048700:=hm x hx;rw[af (by simp only[ao];omega),af (by simp only[ak,ao];omega)];rfl
theorem B4 {N:Nat} {l:List c8} {kf:List c8->aa} (hl:l.length<=1048700) (hm:∀ x:c8,x∈l->x.2.2.length<=1048700) (hN:l.length<N):qa N l kf=kf l:=by
 have h0:=aU;unfold qa;rw[RC (by omega) hN];refine Rm (l:=l) λi x s next h e hs=>?_
 have hx:x∈l:=by rw[←e];exact aK h
 have hxm:x.2.2.length<=1048700:=hm x hx;rw[af (by simp only[ao];omega),af (by simp only[ak,ao];omega)];rfl
theorem zN {N:Nat} {l:List bn} {kf:List bn->aa} (hl:l.length<=1048700) (hm:∀ x:bn,x∈l->x.met.length<=1048700) (hN:l.length<N):oM N l kf=kf l:=by
 have h0:=aU;unfold oM;rw[P6 (by omega) hN];refine Rm (l:=l) λi x s next h e hs=>?_
 have hx:x∈l:=by rw[←e];exact aK h
 have hxm:x.2.2.2.2.2.length<=1048700:=hm x hx;rw[agj hxm,af (by simp only[ak,ao];omega)];rfl
theorem R4 {N:Nat} {l:List c8} {kf:List c8->aa} (hl:l.length<=1048700) (hm:∀ x:c8,x∈l->x.2.2.length<=1048700) (hN:l.length<N):xp N l kf=kf l:=by
 have h0:=aU;unfold xp;rw[O3 (by omega) hN];refine Rm (l:=l) λi x s next h e hs=>?_
 have hx:x∈l:=by rw[←e];exact aK h
 have hxm:x.2.2.length<=1048700:=hm x hx;rw[agj hxm,af (by simp only[ak,ao];omega)];rfl
theorem dE {N:Nat} {c:bE} {kf:bE->aa} (h:cS c N):bW N c kf=kf c:=by have h0:=aU;have h1:=h.rl;have h2:=h.sl;have h3:=h.bl;have h4:=h.ml;unfold bW;rw[oQ h.tb h.tmb h.tN,B4 h.jb h.jmb h.jN,af (by simp only[ao];omega),af (by simp only[ao];omega),af (by simp only[ao];omega),af (by simp only[ao];omega)];rfl
theorem cX {N:Nat} {c:bE} {kf:bE->aa} (h:cS c N):bR N c kf=kf c:=by have h0:=aU;have h2:=h.sl;unfold bR;rw[zN h.tb h.tmb h.tN,R4 h.jb h.jmb h.jN,azI h.rl,agj (by omega),azJ h.bl,aly h.ml]
abbrev Qb:=QL
def aeM (l:List Qb):Int:=(l.getLast?.map λx=>x.2.2.2).getD 0
theorem asy {l:List Qb} (h0:l≠[]):aeM l=(getD l (l.length - 1) zQL).2.2.2:=by
 unfold aeM;rw[List.getLast?_eq_getElem?];have h1:l.length - 1<l.length:=by
  cases l with
  |nil=>exact absurd rfl h0
  |cons x r=>simp
 rw[aG,aN h1];rfl
theorem aiM {l:List Qb} {kf:Int->aa} (hl:l.length<=maxLen):(bif ((length l:Int)==(0:Int)) then kf (0:Int) else bif (bp (wrap .i64 ((length l:Int) - (1:Int))) (length l)) then kf (getD l (toNat (wrap .i64 ((length l:Int) - (1:Int)))) zQL).2.2.2 else none)=kf (aeM l):=by
 have hm:=aU;cases l with
 |nil=>rfl
 |cons x r=>have e1:((length (x::r):Int)==(0:Int))=false:=(by simp only[ak];exact bw.2 (by omega));rw[iD (n:=(length (x::r):Int) - 1)];have e2:(length (x::r):Int) - 1=((length (x::r) - 1:Nat):Int):=(by simp only[ak];omega);rw[e1,e2,aL (by simp),asy (by simp)];simp only[ab,ae,aj]
theorem Ys {N:Nat} {l:List Qb} {kf:Int->aa} (hl:l.length<=maxLen):K3 N l kf=kf (aeM l):=aiM hl
theorem Yt {N:Nat} {l:List Qb} {kf:Int->aa} (hl:l.length<=maxLen):K8 N l kf=kf (aeM l):=aiM hl
def am8 (l:List Qb) (lL AS:Int):Qb:=((l.length:Int)+1,(lL,(AS,ZC (aeM l) ((l.length:Int)+1,(lL,(AS,0))))))
def Gn (l:List Qb) (lL AS:Int):Bool:=sG (l++[am8 l lL AS])
def Gp (l:List Qb) (lL AS:Int):List Qb:=bif Gn l lL AS then l++[am8 l lL AS] else l
theorem aeN {l:List Qb} {lL AS:Int} (h:Gn l lL AS=true):(Gp l lL AS).length<=200:=by unfold Gp;rw[h];unfold Gn sG at h;simp only[ai,au] at h;exact h.1
theorem Wa {N:Nat} {l:List Qb} {lL AS:Int} {kf:List Qb->Bool->aa} (hl:l.length<=1048576) (hN:l.length+1<N) (h4:4<N):Bk N l lL AS kf=kf (Gp l lL AS) (Gn l lL AS):=by have hm:=aU;unfold Bk;rw[Ys (by omega),Oq h4,iD (n:=(length l:Int)+1),af (by simp only[ao];omega)];simp only[bU,ab];rw[af (by simp only[ak,ao];omega),ab,zJ (by simp only[ax,ak,ao];omega) (by simp only[ax,ak,ao];omega) h4];show(bif (!Gn l lL AS) then kf l false else kf (l++[am8 l lL AS]) true)=_;unfold Gp;cases Gn l lL AS<;>rfl
theorem Wb {N:Nat} {l:List Qb} {lL AS:Int} {kf:List Qb->Bool->aa} (hl:l.length<=1048576) (hN:l.length+1<N) (h4:4<N):BE N l lL AS kf=kf (Gp l lL AS) (Gn l lL AS):=by have hm:=aU;unfold BE;rw[Yt (by omega),Mq h4,iD (n:=(length l:Int)+1),aly hl,af (by simp only[ak,ao];omega),ab,zK (by simp only[ax,ak,ao];omega) (by simp only[ax,ak,ao];omega) h4,aly hl];show(bif (!Gn l lL AS) then kf l false else kf (l++[am8 l lL AS]) true)=_;unfold Gp;cases Gn l lL AS<;>rfl
def NZ (c:bE) (l:List Qb):bE:=(c.1,(c.2.1,(c.2.2.1,(c.2.2.2.1,(c.2.2.2.2.1,(l,c.2.2.2.2.2.2))))))
def tM (c out:bE) (lL AS:Int):Bool:=Gn c.2.2.2.2.2.1 lL AS&&(dm c&&dm (NZ out (Gp c.2.2.2.2.2.1 lL AS)))
def xF (c out:bE) (lL AS:Int):bE:=bif tM c out lL AS then NZ out (Gp c.2.2.2.2.2.1 lL AS) else c
theorem acm {c:bE} {N:Nat} {l:List Qb} (h:cS c N) (hl:l.length<=200) (hN:200<N):cS (NZ c l) N:=
 ⟨h.tl,h.tm,h.tN,h.jl,h.jm,h.jN,h.rl,h.rN,h.sl,h.sN,h.bl,h.bN,by show l.length<=_;omega,by show l.length<_;omega,h.n8,h.tb,h.tmb,h.jb,h.jmb⟩
theorem oS {N:Nat} {c out:bE} {ok:Bool} {lL AS:Int} {kf:bE->Bool->aa} (h:cS c N) (ho:ok=true->cS out N) (hN:200<N) (hl:c.2.2.2.2.2.1.length+1<N): jg N c out ok lL AS kf=bif ok then kf (xF c out lL AS) (tM c out lL AS) else kf c false:=by
 have h8:=h.n8;unfold jg;rw[Wa h.ml hl (by omega)];simp only[dE h,wU h];cases ok with
 |false=>rfl
 |true=>
 unfold xF tM;cases hw:Gn c.2.2.2.2.2.1 lL AS with
 |false=>rfl
 |true=>
 cases hc:dm c with
 |false=>rfl
 |true=>have:=wU (N:=N) (kf:=λr=>bif !r then kf c false else kf (NZ out (Gp c.2.2.2.2.2.1 lL AS)) true) (acm (ho rfl) (aeN hw) hN);refine this.trans ?_;simp only[aA];cases dm (NZ out (Gp c.2.2.2.2.2.1 lL AS))<;>rfl
theorem qL {N:Nat} {c out:bE} {lL AS:Int} {kf:bE->Bool->aa} (h:cS c N) (ho:cS out N) (he:out.2.2.2.2.2.1=c.2.2.2.2.2.1) (hN:200<N) (hl:c.2.2.2.2.2.1.length+1<N): pq N c out lL AS kf=kf (xF c out lL AS) (tM c out lL AS):=by
 have h8:=h.n8;unfold pq;rw[he,Wb h.ml hl (by omega)];simp only[cX h,td h];unfold xF tM;cases hw:Gn c.2.2.2.2.2.1 lL AS with
 |false=>rfl
 |true=>
 cases hc:dm c with
 |false=>rfl
 |true=>have:=td (N:=N) (kf:=λr=>bif !r then kf c false else kf (NZ out (Gp c.2.2.2.2.2.1 lL AS)) true) (acm ho (aeN hw) hN);refine this.trans ?_;simp only[aA];cases dm (NZ out (Gp c.2.2.2.2.2.1 lL AS))<;>rfl
theorem J8 {c:bE} (h:dm c=true):c.2.2.2.1.length=c.2.2.1.length/\c.2.2.2.2.1.length=c.2.2.1.length:=by unfold dm at h;simp only[ai,au] at h;exact⟨h.2.2.2.1,h.2.2.2.2.1⟩
def Qc (c:bE) (p f s:Int):tc:=(c.2.2.2.1.getD p.toNat 0,(f,s))
def avq (c:bE) (l:List tc):bE:=(c.1,(c.2.1,(c.2.2.1,(c.2.2.2.1,(l,c.2.2.2.2.2)))))
def Wc (c:bE) (p f s:Int):Bool:=dm c&&((decide (0<=p)&&decide (p<c.2.2.1.length))&&(IS (c.2.2.2.2.1.getD p.toNat x4)&&iB (Qc c p f s)))
def SU (c:bE) (p f s:Int):bE:=avq c (c.2.2.2.2.1.set p.toNat (Qc c p f s))
theorem aiN {c:bE} {N:Nat} (h:cS c N) (p f s:Int):cS (SU c p f s) N:=
 ⟨h.tl,h.tm,h.tN,h.jl,h.jm,h.jN,h.rl,h.rN,h.sl,h.sN,by show(List.set _ _ _).length<=_;rw[bF];exact h.bl,by show(List.set _ _ _).length<_;rw[bF];exact h.bN,h.ml,h.mN,h.n8,h.tb,h.tmb,h.jb,h.jmb⟩
theorem Uj {N:Nat} {c:bE} {p f s:Int} {kf:bE->Bool->aa} (h:cS c N) (hN:200<N) (hl:c.2.2.2.2.2.1.length+1<N): yX N c p f s kf=bif Wc c p f s then kf (xF c (SU c p f s) 4 (Qc c p f s).1) (tM c (SU c p f s) 4 (Qc c p f s).1) else kf c false:=by
 have hm:=aU;have hr:=h.rl;unfold yX;rw[dE h,wU h];unfold Wc;cases hc:dm c with
 |false=>rfl
 |true=>
  obtain⟨l1,l2⟩:=J8 hc
  simp only[az,ae,aA]
  rw[iD (n:=(length c.2.2.1:Int) - 1),ju]
  by_cases hp:0<=p/\p<c.2.2.1.length
  rotate_left
  ·have e1:pk p 0 ((length c.2.2.1:Int) - 1)=false:=by
    cases hx:pk p 0 ((length c.2.2.1:Int) - 1) with
    |false=>rfl
    |true=>rw[mv] at hx;exact absurd ⟨hx.1,by omega⟩ hp
   have e2:(decide (0<=p)&&decide (p<c.2.2.1.length))=false:=by
    cases hx:(decide (0<=p)&&decide (p<c.2.2.1.length)) with
    |false=>rfl
    |true=>simp only[ai,au] at hx;exact absurd hx hp
   rw[e1,e2]
   rfl
  ·obtain⟨hp0,hp1⟩:=hp
   obtain⟨i,rfl⟩:∃ i:Nat,p=(i:Int):=⟨p.toNat,by omega⟩
   have e1:pk (i:Int) 0 ((length c.2.2.1:Int) - 1)=true:=mv.2 ⟨by omega,by omega⟩
   have e2:(decide (0<=(i:Int))&&decide ((i:Int)<c.2.2.1.length))=true:=by simp only[ai,au];omega
   rw[e1,e2]
   simp only[az,ae,aA,aj,bF]
   rw[aL (show i<c.2.2.2.2.1.length by omega),aL (show i<c.2.2.2.1.length by omega)]
   simp only[ab]
   have e3:getD (List.set c.2.2.2.2.1 i (getD c.2.2.2.1 i (0:Int),(f,s))) i x4=(getD c.2.2.2.1 i (0:Int),(f,s)):=by
    rw[aG,mY (by omega)]
    rfl
   rw[e3,Eu]
   show(bif !IS (getD c.2.2.2.2.1 i x4) then kf c false else _)=_
   cases IS (getD c.2.2.2.2.1 i x4) with
   |false=>rfl
   |true=>
    simp only[az,ae,aA]
    exact oS (out:=SU c (i:Int) f s) h (λ_=>aiN h _ _ _) hN hl
theorem Uk {N:Nat} {c:bE} {p f s:Int} {kf:bE->Bool->aa} (h:cS c N) (hN:200<N) (hl:c.2.2.2.2.2.1.length+1<N): uT N c p f s kf=bif Wc c p f s then kf (xF c (SU c p f s) 4 (Qc c p f s).1) (tM c (SU c p f s) 4 (Qc c p f s).1) else kf c false:=by
 have hm:=aU;have hr:=h.rl;unfold uT;rw[cX h,td h];unfold Wc;cases hc:dm c with
 |false=>rfl
 |true=>
  obtain⟨l1,l2⟩:=J8 hc
  simp only[az,ae,aA]
  by_cases hp:0<=p/\p<c.2.2.1.length
  rotate_left
  ·have e2:(decide (0<=p)&&decide (p<c.2.2.1.length))=false:=by
    cases hx:(decide (0<=p)&&decide (p<c.2.2.1.length)) with
    |false=>rfl
    |true=>simp only[ai,au] at hx;exact absurd hx hp
   rw[e2]
   by_cases h0:p<0
   ·rw[af h0];rfl
   ·rw[an h0,af (show p≥(length c.2.2.1:Int) by omega)];rfl
  ·obtain⟨hp0,hp1⟩:=hp
   obtain⟨i,rfl⟩:∃ i:Nat,p=(i:Int):=⟨p.toNat,by omega⟩
   have e2:(decide (0<=(i:Int))&&decide ((i:Int)<c.2.2.1.length))=true:=by simp only[ai,au];omega
   rw[an (show ¬(i:Int)<0 by omega),an (show ¬(i:Int)≥(length c.2.2.1:Int) by omega),e2]
   simp only[ae,aA,aj]
   rw[aL (show i<c.2.2.2.2.1.length by omega),aL (show i<c.2.2.2.1.length by omega),Ev]
   simp only[ab]
   show(bif !IS (getD c.2.2.2.2.1 i x4) then kf c false else _)=_
   cases IS (getD c.2.2.2.2.1 i x4) with
   |false=>rfl
   |true=>
    simp only[az,ae,aA]
    show(bif !iB (Qc c (i:Int) f s) then kf c false else _)=_
    cases iB (Qc c (i:Int) f s) with
    |false=>rfl
    |true=>exact qL (out:=SU c (i:Int) f s) h (aiN h _ _ _) rfl hN hl
end Go.Pv.R
namespace Go.Pv
open List Int IntKind
abbrev Asc (l:List Int):Prop:=l.Pairwise (· < ·)
theorem am9:∀ {a b:List Int},Asc a->Asc b->(∀ x,x∈a↔x∈b)->a=b
 |[],[],_,_,_=>rfl
 |[],y::b,_,_,h=>by have:=(h y).2 (by simp);simp at this
 |x::a,[],_,_,h=>by have:=(h x).1 (by simp);simp at this
 |x::a,y::b,ha,hb,h=>by
  rw[Asc,bZ] at ha hb;have hxy:x=y:=by
   have h1:=(h x).1 (by simp);have h2:=(h y).2 (by simp);rcases aS.1 h1 with h1 |h1
   ·exact h1
   rcases aS.1 h2 with h2 |h2
   ·exact h2.symm
   have:=hb.1 x h1;have:=ha.1 y h2;omega
  subst hxy;congr 1;refine am9 ha.2 hb.2 λz=>?_;constructor
  ·intro hz;rcases aS.1 ((h z).1 (by simp[hz])) with e |e
   ·subst e;have:=ha.1 z hz;omega
   exact e
  intro hz;rcases aS.1 ((h z).2 (by simp[hz])) with e |e
  ·subst e;have:=hb.1 z hz;omega
  exact e
def Gq:List Int->Int->List Int
 |[],n=>[n]
 |x::r,n=>bif decide (x<n) then x::Gq r n else bif x==n then x::r else n::x::r
theorem Wd:∀ (l:List Int) (n x:Int),x∈Gq l n↔x=n∨x∈l
 |[],n,x=>by simp[Gq]
 |y::r,n,x=>by
  simp only[Gq];by_cases h:y<n
  ·rw[af h,ab,aS,Wd r n x,aS];constructor
   ·rintro(h |h |h)<;>simp[h]
   rintro(h |h |h)<;>simp[h]
  rw[an h,ae];by_cases e:y=n
  ·subst e;simp
  rw[bw.2 e,ae];simp
theorem Qd:∀ {l:List Int} {n:Int},Asc l->Asc (Gq l n)
 |[],n,_=>by simp[Gq,Asc]
 |y::r,n,h=>by
  rw[Asc,bZ] at h;simp only[Gq];by_cases hy:y<n
  ·rw[af hy,ab,Asc,bZ];refine⟨λz hz=>?_,Qd h.2⟩;rcases(Wd r n z).1 hz with e |e
   ·omega
   exact h.1 z e
  rw[an hy,ae];by_cases e:y=n
  ·subst e;simp only[gh,ab,Asc,bZ];exact h
  rw[bw.2 e,ae,Asc,bZ,bZ];refine⟨λz hz=>?_,h⟩;rcases aS.1 hz with e2 |e2
  ·omega
  have:=h.1 z e2;omega
theorem We:∀ (l:List Int) (n:Int),(Gq l n).length<=l.length+1
 |[],n=>by simp[Gq]
 |y::r,n=>by
  simp only[Gq];have:=We r n;cases decide (y<n) with
  |true=>simp only[ab,ak];omega
  |false=>cases y==n<;>simp
theorem aoR (l:List Int) (x:Int):x∈Ae l↔x∈l:=(Nx l).mem_iff
theorem asz (l:List Int):(Ae l).Pairwise (·<=·):=Yb l
theorem Ew:∀ (r:List Int) (x:Int),(x::r).Pairwise (·<=·)->Asc (x::mL x r)/\∀ z,z∈x::mL x r↔z∈x::r
 |[],x,_=>by simp[mL,Asc]
 |y::r,x,h=>by
  rw[bZ] at h;simp only[mL];by_cases e:y=x
  ·subst e;simp only[gh,ab];obtain⟨h1,h2⟩:=Ew r y h.2;refine⟨h1,λz=>(h2 z).trans ?_⟩;simp
  rw[bw.2 e,ae];obtain⟨h1,h2⟩:=Ew r y h.2;have gC:x<y:=(by have:=h.1 y (by simp);omega);refine⟨?_,λz=>?_⟩
  ·rw[Asc,bZ];refine⟨λz hz=>?_,h1⟩;have h3:Asc (y::mL y r):=h1;rw[Asc,bZ] at h3;rcases aS.1 hz with e2 |e2
   ·omega
   have:=h3.1 z e2;omega
  rw[aS,h2 z];simp only[aS]
theorem adE (l:List Int) (h:l.Pairwise (·<=·)):Asc (oZ l)/\∀ z,z∈oZ l↔z∈l:=by
 cases l with
 |nil=>simp[oZ,Asc]
 |cons x r=>exact Ew r x h
end Go.Pv
namespace Go.Pv.R
open List Int IntKind
def uV:List Int->Int->Nat
 |[],_=>0
 |x::r,n=>bif decide (x<n) then uV r n+1 else 0
theorem am':∀ (l:List Int) (n:Int),uV l n<=l.length
 |[],_=>aM _
 |x::r,n=>by simp only[uV];have:=am' r n;cases decide (x<n)<;>simp<;>omega
theorem aiO:∀ (l:List Int) (n:Int),Gq l n=bif decide (uV l n<l.length)&&(l.getD (uV l n) 0==n) then l else l.take (uV l n)++[n]++l.drop (uV l n)
 |[],n=>rfl
 |x::r,n=>by
  by_cases h:x<n
  ·have hc:uV (x::r) n=uV r n+1:=(by simp only[uV];rw[af h];rfl);have hp:Gq (x::r) n=x::Gq r n:=(by simp only[Gq];rw[af h];rfl);rw[hc,hp,aiO r n];simp only[ak,List.getD_cons_succ,n0,List.drop_succ_cons];rw[show decide (uV r n+1<r.length+1)=decide (uV r n<r.length) from ia.2 (by omega)];cases (decide (uV r n<r.length)&&(r.getD (uV r n) 0==n))<;>simp
  have hc:uV (x::r) n=0:=(by simp only[uV];rw[an h];rfl);have hp:Gq (x::r) n=bif x==n then x::r else n::x::r:=(by simp only[Gq];rw[an h];rfl);rw[hc,hp];simp only[ak,List.getD_cons_zero,tP,dJ];rw[af (show 0<r.length+1 by omega),aA];cases x==n<;>simp
theorem ana {n:Int} {k:Int->aa}:∀ (r:List Int) (i m:Nat),i+r.length=m->EO (λ(i:Nat) (x:Int) (next:aa)=>bif (decide (x<n)) then next else k (i:Int)) (k (m:Int)) r i=k ((i+uV r n:Nat):Int)
 |[],i,m,h=>by simp only[EO,uV];rw[←h];rfl
 |x::r,i,m,h=>by
  simp only[EO,uV];cases decide (x<n) with
  |true=>simp only[ab];rw[ana r (i+1) m (by simp only[ak] at h;omega)];congr 1;omega
  |false=>simp only[ae,dM]
theorem Qe {N:Nat} {l:List Int} {n:Int} {kf:List Int->aa} (hl:l.length<=1048576) (hN:l.length<N):iP N l n kf=kf (Gq l n):=by
 have hm:=aU;unfold iP;rw[Yn (by omega) hN];have hc:=am' l n;have h2:(decide ((length ([]:List Int)+length l)*1<=4398046511104))=true:=af (by simp only[ao];omega);have hj:sS l n kf (uV l n:Int)=kf (l.take (uV l n)++[n]++l.drop (uV l n)):=by
  unfold sS;have d1:(decide ((0:Int)<=(0:Int))&&decide ((0:Int)<=(uV l n:Int))&&decide ((uV l n:Int)<=(length l:Int)))=true:=by simp;omega
  have d2:(decide ((0:Int)<=(uV l n:Int))&&decide ((uV l n:Int)<=(length l:Int))&&decide ((length l:Int)<=(length l:Int)))=true:=(by simp;omega);rw[d1,d2];have e1:List.drop (toNat 0) (List.take (toNat (uV l n:Int)) l)=l.take (uV l n):=(by simp);have e2:List.drop (toNat (uV l n:Int)) (List.take (toNat (length l:Int)) l)=l.drop (uV l n):=(by simp);rw[e1,e2];have l1:(l.take (uV l n)).length=uV l n:=(by rw[aH];omega);have l2:(l.drop (uV l n)).length=l.length - uV l n:=aX;rw[af (by simp only[ao];omega),af (by simp only[ax,ak,ao];omega),af (by simp only[ax,ak,ao];omega)];simp only[ab,bU]
 have:=ana (n:=n) (k:=λ(Gb:Int)=>
  bif (decide (Gb<(length l:Int))) then
   bif (bp Gb (length l)) then
    bif ((getD l (toNat Gb) (0:Int))==n) then
     bif (decide ((length ([]:aq)+length l)*1<=4398046511104)) then
      kf (([]:aq)++l)
     else none
    else
     sS l n kf Gb
   else none
  else
   sS l n kf Gb) l 0 l.length (by omega)
 refine this.trans ?_;simp only[aW];rw[hj,aiO];by_cases gC:uV l n<l.length
 ·rw[af (show(uV l n:Int)<(length l:Int) by omega),af gC,aL gC,aj,h2];simp only[ab,aA,bU];cases getD l (uV l n) 0==n<;>rfl
 rw[an (show ¬(uV l n:Int)<(length l:Int) by omega),an gC];rfl
theorem avr {N:Nat} {l:List Int} {kf:List Int->aa} (hl:l.length<=1048576):alj N l kf=kf (Ae l):=by unfold alj;have:Nat.blt (length l) 4611686018427387904=true:=tV (by omega);rw[this];rfl
theorem avs {N:Nat} {l:List Int} {kf:List Int->aa}:aoO N l kf=kf (oZ l):=rfl
end Go.Pv.R
namespace Go.Pv.R
open List Int IntKind
theorem Mu {α:Type} (l:List α) (k:Nat):List.drop (toNat 0) (List.take k l)=l.take k/\List.drop k (List.take (length l) l)=l.drop k:=by simp
def Yu (c:bE) (l:List bn):bE:=(l,c.2)
def anb (c:bE) (k:Nat):bE:=Yu c (c.1.take k++c.1.drop (k+1))
theorem Wf {c:bE} {N:Nat} {l:List bn} (h:cS c N) (hl:l.length<=1048700) (hN:l.length<N) (hm:∀ x:bn,x∈l->x.met.length<=1048700/\x.met.length<N):cS (Yu c l) N:=by have h0:=aU;exact⟨by show l.length<=_;omega,λx hx=>⟨by have:=(hm x hx).1;omega,(hm x hx).2⟩,hN,h.jl,h.jm,h.jN,h.rl,h.rN,h.sl,h.sN,h.bl,h.bN,h.ml,h.mN,h.n8,hl,λx hx=>(hm x hx).1,h.jb,h.jmb⟩
theorem aiP {c:bE} {N:Nat} (h:cS c N) (k:Nat):cS (anb c k) N:=by
 have h1:=h.tb;have h2:=h.tN;have hl:(c.1.take k++c.1.drop (k+1)).length<=c.1.length:=by rw[ax,aH,aX];omega
 refine Wf h (by omega) (by omega) λx hx=>?_;have Pf:x∈c.1:=by
  rcases a8.1 hx with hx |hx
  ·exact fJ hx
  exact dI hx
 exact⟨h.tmb x Pf,(h.tm x Pf).2⟩
def Qf (c:bE) (id:Int):Bool:=decide (0<=bK c.1 id)&&(decide (c.2.2.1.length=0)&&decide ((c.1.getD (bK c.1 id).toNat eZ).2.2.2.2.2.length=0))
def N0 (c:bE) (id:Int):bE:=anb c (bK c.1 id).toNat
theorem Wg {N:Nat} {c:bE} {id:Int} {kf:bE->Bool->aa} (h:cS c N) (hN:200<N) (hl:c.2.2.2.2.2.1.length+1<N): Bu N c id kf=bif Qf c id then kf (xF c (N0 c id) 6 id) (tM c (N0 c id) 6 id) else kf c false:=by
 have hm:=aU;have htb:=h.tb;unfold Bu;rw[dE h,fQ h.tl h.tN];unfold l6 Qf N0;by_cases hf:bK c.1 id<0
 ·rw[af hf,an (show ¬ 0<=bK c.1 id by omega)];rfl
 ·obtain⟨k,hk,he,_⟩:=fP (p:=λx:bn=>x.1==id) (l:=c.1) hf
  have he':bK c.1 id=(k:Int):=he
  rw[he',an (show ¬(k:Int)<0 by omega),af (show 0<=(k:Int) by omega)]
  simp only[ae,aA,aj]
  by_cases hr:c.2.2.1.length=0
  rotate_left
  ·rw[af (show(length c.2.2.1:Int)>0 by omega),an hr]
   rfl
  ·rw[an (show ¬(length c.2.2.1:Int)>0 by omega),af hr,aL hk]
   simp only[ae,ab,aA]
   by_cases asA:(c.1.getD k eZ).2.2.2.2.2.length=0
   rotate_left
   ·rw[af (show(length (c.1.getD k eZ).2.2.2.2.2:Int)>0 by omega),an asA]
    rfl
   ·rw[an (show ¬(length (c.1.getD k eZ).2.2.2.2.2:Int)>0 by omega),af asA,iD (n:=(k:Int)+1)]
    have d1:(decide ((0:Int)<=(0:Int))&&true&&decide ((k:Int)<=(length c.1:Int)))=true:=by simp;omega
    have d2:(decide ((0:Int)<=(k:Int)+1)&&decide ((k:Int)+1<=(length c.1:Int))&&decide ((length c.1:Int)<=(length c.1:Int)))=true:=by simp;omega
    have e3:toNat ((k:Int)+1)=k+1:=by omega
    rw[d1,d2,e3,(Mu c.1 k).1,(Mu c.1 (k+1)).2]
    simp only[ab,ae]
    have l1:(c.1.take k).length<=c.1.length:=by rw[aH];omega
    have l2:(c.1.drop (k+1)).length<=c.1.length:=by rw[aX];omega
    rw[oQ (by omega) (λx hx=>h.tmb x (fJ hx)) (by have:=h.tN;omega),oQ (by omega) (λx hx=>h.tmb x (dI hx)) (by have:=h.tN;omega),dZ,ab]
    exact oS (out:=anb c k) h (λ_=>aiP h k) hN hl
theorem Wh {N:Nat} {c:bE} {id:Int} {kf:bE->Bool->aa} (h:cS c N) (hN:200<N) (hl:c.2.2.2.2.2.1.length+1<N): wP N c id kf=bif Qf c id then kf (xF c (N0 c id) 6 id) (tM c (N0 c id) 6 id) else kf c false:=by
 have hm:=aU;have htb:=h.tb;unfold wP;rw[cX h,fR h.tl h.tN];unfold iS Qf N0;by_cases hf:bK c.1 id<0
 ·rw[af hf,an (show ¬ 0<=bK c.1 id by omega)];rfl
 ·obtain⟨k,hk,he,_⟩:=fP (p:=λx:bn=>x.1==id) (l:=c.1) hf
  have he':bK c.1 id=(k:Int):=he
  rw[he',an (show ¬(k:Int)<0 by omega),af (show 0<=(k:Int) by omega),aj,aL hk]
  simp only[ae,ab,aA]
  by_cases asA:(c.1.getD k eZ).2.2.2.2.2.length=0
  rotate_left
  ·rw[af (show(length (c.1.getD k eZ).2.2.2.2.2:Int)>0 by omega),an asA,dN]
   rfl
  ·rw[an (show ¬(length (c.1.getD k eZ).2.2.2.2.2:Int)>0 by omega),af asA]
   by_cases hr:c.2.2.1.length=0
   rotate_left
   ·rw[af (show(length c.2.2.1:Int)>0 by omega),an hr]
    rfl
   ·rw[an (show ¬(length c.2.2.1:Int)>0 by omega),af hr,iD (n:=(k:Int)+1)]
    simp only[ae,cM,ab]
    unfold aze
    have d1:(decide ((0:Int)<=(k:Int))&&(decide ((k:Int)<=(k:Int)+1)&&decide ((k:Int)+1<=(length c.1:Int))))=true:=by simp;omega
    have e3:toNat ((k:Int)+1)=k+1:=by omega
    rw[d1,e3,aj,ab]
    exact qL (out:=anb c k) h (aiP h k) rfl hN hl
end Go.Pv.R
namespace Go.Pv.R
open List Int IntKind
end Go.Pv.R
namespace Go.Pv.R
open List Int IntKind
theorem asB {α:Type} {l:List α} {z:α} {g:α->Int} (h:∀ (i:Nat) (hi:i<l.length),0<i->g (l.getD (i - 1) z)<g l[i]):∀ (j i:Nat) (hi:i<l.length),j<i->g (l.getD j z)<g l[i]:=by
 intro j i;induction i with
 |zero=>intro _ hj;omega
 |succ i ih=>
 intro hi hj;have h1:=h (i+1) hi (by omega);rw[pn] at h1;by_cases e:j=i
 ·subst e;exact h1
 have h2:=ih (by omega) (by omega);rw[aO _ _ (by omega)] at h1;omega
theorem asC {α:Type} {xs:List α} {x z:α} {g:α->Int} {k:Nat} (hk:k<=xs.length) (hm:∀ (j i:Nat) (hi:i<(xs.take k++[x]++xs.drop k).length),j<i->g ((xs.take k++[x]++xs.drop k).getD j z)<g (xs.take k++[x]++xs.drop k)[i]): ∀ (i:Nat) (hi:i<xs.length),g xs[i]≠g x:=by
 intro i hi he;have hl:(xs.take k++[x]++xs.drop k).length=xs.length+1:=by simp only[ax,aH,aX,ak,ao];omega
 have gC:(xs.take k).length=k:=by rw[aH];omega
 have hkx:∀ (h:k<(xs.take k++[x]++xs.drop k).length),(xs.take k++[x]++xs.drop k)[k]=x:=λh=>by rw[cI (by rw[ax,gC];simp),dx (by omega)];simp[gC]
 by_cases hik:i<k
 ·have h1:=hm i k (by omega) hik;rw[aO _ _ (by omega),hkx,cI (by rw[ax,gC];simp;omega),cI (by omega),gw] at h1;omega
 have h1:=hm k (i+1) (by omega) (by omega);rw[aO _ _ (by omega),hkx,dx (by rw[ax,gC];simp;omega),lW] at h1;have e2:k+(i+1 - (xs.take k++[x]).length)=i:=by rw[ax,gC];simp;omega
 simp only[e2] at h1;omega
theorem Qg {α:Type} {p:α->Bool} {k:Int->aa}:∀ (r:List α) (i m:Nat),i+r.length=m->EO (λ(i:Nat) (x:α) (next:aa)=>bif p x then next else k (i:Int)) (k (m:Int)) r i=k ((i+(r.takeWhile p).length:Nat):Int)
 |[],i,m,h=>by simp only[ao,dM] at h;subst h;rfl
 |x::r,i,m,h=>by
  simp only[ak] at h;simp only[EO,List.takeWhile_cons];cases hp:p x with
  |false=>rfl
  |true=>simp only[ab,dy,ak];rw[Qg r (i+1) m (by omega)];congr 2;omega
theorem SV {α:Type} (p:α->Bool) (l:List α):(l.takeWhile p).length<=l.length:=(List.takeWhile_sublist p).length_le
theorem aCH {α:Type} {xs:List α} {x:α} {k s:Nat} (hk:k<=xs.length) (hl:xs.length<=1048700) (hs:s<=8):(decide ((0:Int)<=(k:Int))&&(decide ((k:Int)<=(length xs:Int))&&(Nat.blt 0 (length [x])&&Nat.ble ((length xs+length [x])*s) 4398046511104)))=true:=by have h1:(length xs+length [x])*s<=1048701*8:=Nat.mul_le_mul (by simp;omega) hs;rw[dZ,dZ];simp only[aA,ai];exact⟨rfl,by rw[qF];omega⟩
def avt (id iV:Int):bn:=(id,(iV,(0,(0,(0,[])))))
def N1 (l:List bn) (id:Int):Nat:=(l.takeWhile λx=>decide (x.1<id)).length
def J9 (c:bE) (id iV:Int):bE:=Yu c (c.1.take (N1 c.1 id)++[avt id iV]++c.1.drop (N1 c.1 id))
theorem aau (l:List bn) (id:Int):N1 l id<=l.length:=SV _ _
theorem asD {α:Type} {xs:List α} {x y:α} {k:Nat} (h:y∈xs.take k++[x]++xs.drop k):y∈xs∨y=x:=by
 rcases a8.1 h with h |h
 ·rcases a8.1 h with h |h
  ·exact .inl (fJ h)
  exact .inr (bj.1 h)
 exact .inl (dI h)
theorem asE {α:Type} {xs:List α} {x:α} {k:Nat} (hk:k<=xs.length):(xs.take k++[x]++xs.drop k).length=xs.length+1:=by simp only[ax,aH,aX,ak,ao];omega
theorem aiQ {c:bE} {N:Nat} {id iV:Int} (h:cS c N) (hb:c.1.length<=1048576) (hN:c.1.length+1<N):cS (J9 c id iV) N:=by
 have hl:=asE (x:=avt id iV) (aau c.1 id);have h8:=h.n8;refine Wf h (by omega) (by omega) λx hx=>?_;rcases asD hx with hx |rfl
 ·exact⟨h.tmb x hx,(h.tm x hx).2⟩
 exact⟨by show(0:Nat)<=_;omega,by show(0:Nat)<_;omega⟩
theorem asF {c:bE} {id iV:Int} (h:bB (J9 c id iV).1=true):bK c.1 id<0:=by
 unfold bB at h;simp only[ai] at h;have hm:=Uh h.2.1;have wj:=asC (xs:=c.1) (x:=avt id iV) (z:=eZ) (g:=λx:bn=>x.1) (aau c.1 id) hm;by_cases hf:bK c.1 id<0
 ·exact hf
 obtain⟨k,hk,_,h1,_⟩:=fP (p:=λx:bn=>x.1==id) (l:=c.1) hf;exact absurd (bP.1 h1) (wj k hk)
theorem avu {c:bE} {id iV:Int} (hf: ¬bK c.1 id<0):tM c (J9 c id iV) 1 id=false:=by
 cases hd:tM c (J9 c id iV) 1 id with
 |false=>rfl
 |true=>unfold tM dm at hd;simp only[ai] at hd;exact absurd (asF hd.2.2.1) hf
theorem R5 {N:Nat} {c z:bE} {id iV:Int} {k:Int->aa} (h:cS c N):lr id iV c z c N k (0:Int)=k ((N1 c.1 id:Nat):Int):=by rw[T8 h.tl h.tN,Qg c.1 0 c.1.length (by omega),aW];rfl
theorem Yv {N:Nat} {c:bE} {id iV:Int} {kf:bE->Bool->aa} (h:cS c N) (hb:c.1.length<=1048576) (hN1:c.1.length+1<N) (hN:200<N) (hl:c.2.2.2.2.2.1.length+1<N): ET N c id iV kf=bif decide (c.2.2.1.length=0) then kf (xF c (J9 c id iV) 1 id) (tM c (J9 c id iV) 1 id) else kf c false:=by
 have hm:=aU;have hk:=aau c.1 id;unfold ET;rw[dE h,R5 h];show(bif (decide ((0:Int)<=(0:Int))&&decide ((0:Int)<=((N1 c.1 id:Nat):Int))&&decide (((N1 c.1 id:Nat):Int)<=(length c.1:Int))) then _ else _)=_;have d1:(decide ((0:Int)<=(0:Int))&&decide ((0:Int)<=((N1 c.1 id:Nat):Int))&&decide (((N1 c.1 id:Nat):Int)<=(length c.1:Int)))=true:=by simp;omega
 have d2:(decide ((0:Int)<=((N1 c.1 id:Nat):Int))&&decide (((N1 c.1 id:Nat):Int)<=(length c.1:Int))&&decide ((length c.1:Int)<=(length c.1:Int)))=true:=by simp;omega
 have l1:(c.1.take (N1 c.1 id)).length<=c.1.length:=by rw[aH];omega
 have l2:(c.1.drop (N1 c.1 id)).length<=c.1.length:=by rw[aX];omega
 rw[d1,ab,aj,(Mu c.1 (N1 c.1 id)).1,oQ (by omega) (λx hx=>h.tmb x (fJ hx)) (by omega),af (by simp only[ak,ao];omega),ab];show(bif (decide ((0:Int)<=((N1 c.1 id:Nat):Int))&&decide (((N1 c.1 id:Nat):Int)<=(length c.1:Int))&&decide ((length c.1:Int)<=(length c.1:Int))) then _ else _)=_;rw[d2,ab,aj];show lY N (List.drop (N1 c.1 id) (List.take (length c.1) c.1)) _=_;rw[(Mu c.1 (N1 c.1 id)).2,oQ (by omega) (λx hx=>h.tmb x (dI hx)) (by omega),af (by simp only[ax,ak,ao];omega),ab];unfold l6;refine(oS (out:=J9 c id iV) h (λ_=>aiQ h hb hN1) hN hl).trans ?_;by_cases hr:c.2.2.1.length=0
 ·rw[af hr,an (show ¬(length c.2.2.1:Int)>0 by omega)];rfl
 rw[an hr,af (show(length c.2.2.1:Int)>0 by omega)];rfl
theorem R6 {N:Nat} {c z:bE} {id iV:Int} {k:Int->aa} (h:cS c N):ly id iV c z c N k (0:Int)=k ((N1 c.1 id:Nat):Int):=by rw[Ue h.tl h.tN,Qg c.1 0 c.1.length (by omega),aW];rfl
theorem Yw {N:Nat} {c:bE} {id iV:Int} {kf:bE->Bool->aa} (h:cS c N) (hb:c.1.length<=1048576) (hN1:c.1.length+1<N) (hN:200<N) (hl:c.2.2.2.2.2.1.length+1<N):
  yl N c id iV kf=bif decide (c.2.2.1.length=0) then kf (xF c (J9 c id iV) 1 id) (tM c (J9 c id iV) 1 id) else kf c false:=by
 have hm:=aU
 have hk:=aau c.1 id
 unfold yl
 rw[cX h,fR h.tl h.tN]
 by_cases hf:bK c.1 id<0
 rotate_left
 ·rw[af (show bK c.1 id≥0 by omega),ab]
  have hd:=avu (iV:=iV) hf
  have hc:xF c (J9 c id iV) 1 id=c:=by unfold xF;rw[hd];rfl
  rw[hd,hc]
  cases decide (c.2.2.1.length=0)<;>rfl
 ·rw[an (show ¬bK c.1 id≥0 by omega),ae]
  unfold iS
  by_cases hr:c.2.2.1.length=0
  rotate_left
  ·rw[an hr,af (show(length c.2.2.1:Int)>0 by omega)];rfl
  ·rw[af hr,an (show ¬(length c.2.2.1:Int)>0 by omega)]
   simp only[ae,ab]
   rw[R6 h]
   show avf N c.1 ((N1 c.1 id:Nat):Int) [avt id iV] _=_
   unfold avf
   rw[aCH hk (by omega) (by decide),ab,aj]
   exact qL (out:=J9 c id iV) h (aiQ h hb hN1) rfl hN hl
def acn (c:bE) (l:List c8):bE:=(c.1,(l,c.2.2))
theorem adF {c:bE} {N:Nat} {l:List c8} (h:cS c N) (hl:l.length<=1048700) (hN:l.length<N) (hm:∀ x:c8,x∈l->x.2.2.length<=1048700/\x.2.2.length<N):cS (acn c l) N:=by have h0:=aU;exact⟨h.tl,h.tm,h.tN,by show l.length<=_;omega,λx hx=>⟨by have:=(hm x hx).1;omega,(hm x hx).2⟩,hN,h.rl,h.rN,h.sl,h.sN,h.bl,h.bN,h.ml,h.mN,h.n8,h.tb,h.tmb,hl,λx hx=>(hm x hx).1⟩
def avv (id iV:Int):c8:=(id,(iV,[]))
def N3 (l:List c8) (id:Int):Nat:=(l.takeWhile λx=>decide (x.1<id)).length
def Ey (c:bE) (id iV:Int):bE:=acn c (c.2.1.take (N3 c.2.1 id)++[avv id iV]++c.2.1.drop (N3 c.2.1 id))
theorem aav (l:List c8) (id:Int):N3 l id<=l.length:=SV _ _
theorem aeO {c:bE} {N:Nat} {id iV:Int} (h:cS c N) (hb:c.2.1.length<=1048576) (hN:c.2.1.length+1<N):cS (Ey c id iV) N:=by
 have hl:=asE (x:=avv id iV) (aav c.2.1 id);have h8:=h.n8;refine adF h (by omega) (by omega) λx hx=>?_;rcases asD hx with hx |rfl
 ·exact⟨h.jmb x hx,(h.jm x hx).2⟩
 exact⟨by show(0:Nat)<=_;omega,by show(0:Nat)<_;omega⟩
theorem aoS {c:bE} {id iV:Int} (h:fm (Ey c id iV).2.1=true):gI c.2.1 id<0:=by
 unfold fm at h;simp only[ai] at h;have hm:=asB (l:=(Ey c id iV).2.1) (z:=jy) (g:=λx:c8=>x.1) (λi hi h0=>by
  have h1:=(nN.1 h.2) i hi
  rw[aW] at h1
  unfold IN at h1
  simp only[ai,bd,au] at h1
  exact h1.2.2.1.resolve_left (by omega))
 have wj:=asC (xs:=c.2.1) (x:=avv id iV) (z:=jy) (g:=λx:c8=>x.1) (aav c.2.1 id) hm;by_cases hf:gI c.2.1 id<0
 ·exact hf
 obtain⟨k,hk,_,h1,_⟩:=fP (p:=λx:c8=>x.1==id) (l:=c.2.1) hf;exact absurd (bP.1 h1) (wj k hk)
theorem asG {c:bE} {id iV:Int} (hf: ¬gI c.2.1 id<0):tM c (Ey c id iV) 2 id=false:=by
 cases hd:tM c (Ey c id iV) 2 id with
 |false=>rfl
 |true=>unfold tM dm at hd;simp only[ai] at hd;exact absurd (aoS hd.2.2.2.1) hf
theorem Qh {N:Nat} {c z:bE} {id iV:Int} {k:Int->aa} (h:cS c N):jT id iV c z c N k (0:Int)=k ((N3 c.2.1 id:Nat):Int):=by rw[RI h.jl h.jN,Qg c.2.1 0 c.2.1.length (by omega),aW];rfl
theorem Wi {N:Nat} {c:bE} {id iV:Int} {kf:bE->Bool->aa} (h:cS c N) (hb:c.2.1.length<=1048576) (hN1:c.2.1.length+1<N) (hN:200<N) (hl:c.2.2.2.2.2.1.length+1<N): Bp N c id iV kf=kf (xF c (Ey c id iV) 2 id) (tM c (Ey c id iV) 2 id):=by
 have hm:=aU;have hk:=aav c.2.1 id;unfold Bp;rw[dE h,Qh h];show(bif (decide ((0:Int)<=(0:Int))&&decide ((0:Int)<=((N3 c.2.1 id:Nat):Int))&&decide (((N3 c.2.1 id:Nat):Int)<=(length c.2.1:Int))) then _ else _)=_;have d1:(decide ((0:Int)<=(0:Int))&&decide ((0:Int)<=((N3 c.2.1 id:Nat):Int))&&decide (((N3 c.2.1 id:Nat):Int)<=(length c.2.1:Int)))=true:=by simp;omega
 have d2:(decide ((0:Int)<=((N3 c.2.1 id:Nat):Int))&&decide (((N3 c.2.1 id:Nat):Int)<=(length c.2.1:Int))&&decide ((length c.2.1:Int)<=(length c.2.1:Int)))=true:=by simp;omega
 have l1:(c.2.1.take (N3 c.2.1 id)).length<=c.2.1.length:=by rw[aH];omega
 have l2:(c.2.1.drop (N3 c.2.1 id)).length<=c.2.1.length:=by rw[aX];omega
 rw[d1,ab,aj,(Mu c.2.1 (N3 c.2.1 id)).1,B4 (by omega) (λx hx=>h.jmb x (fJ hx)) (by omega),af (by simp only[ak,ao];omega),ab];show(bif (decide ((0:Int)<=((N3 c.2.1 id:Nat):Int))&&decide (((N3 c.2.1 id:Nat):Int)<=(length c.2.1:Int))&&decide ((length c.2.1:Int)<=(length c.2.1:Int))) then _ else _)=_;rw[d2,ab,aj];show qa N (List.drop (N3 c.2.1 id) (List.take (length c.2.1) c.2.1)) _=_;rw[(Mu c.2.1 (N3 c.2.1 id)).2,B4 (by omega) (λx hx=>h.jmb x (dI hx)) (by omega),af (by simp only[ax,ak,ao];omega),ab];exact oS (out:=Ey c id iV) h (λ_=>aeO h hb hN1) hN hl
theorem Qi {N:Nat} {c z:bE} {id iV:Int} {k:Int->aa} (h:cS c N):j8 id iV c z c N k (0:Int)=k ((N3 c.2.1 id:Nat):Int):=by rw[RU h.jl h.jN,Qg c.2.1 0 c.2.1.length (by omega),aW];rfl
theorem Wj {N:Nat} {c:bE} {id iV:Int} {kf:bE->Bool->aa} (h:cS c N) (hb:c.2.1.length<=1048576) (hN1:c.2.1.length+1<N) (hN:200<N) (hl:c.2.2.2.2.2.1.length+1<N):
  wL N c id iV kf=kf (xF c (Ey c id iV) 2 id) (tM c (Ey c id iV) 2 id):=by
 have hm:=aU
 have hk:=aav c.2.1 id
 unfold wL
 rw[cX h,Gm h.jl h.jN]
 by_cases hf:gI c.2.1 id<0
 rotate_left
 ·rw[af (show gI c.2.1 id≥0 by omega),ab]
  have hd:=asG (iV:=iV) hf
  have hc:xF c (Ey c id iV) 2 id=c:=by unfold xF;rw[hd];rfl
  rw[hd,hc]
 ·rw[an (show ¬gI c.2.1 id≥0 by omega),ae,Qi h]
  show avi N c.2.1 ((N3 c.2.1 id:Nat):Int) [avv id iV] _=_
  unfold avi
  rw[aCH hk (by omega) (by decide),ab,aj]
  exact qL (out:=Ey c id iV) h (aeO h hb hN1) rfl hN hl
end Go.Pv.R
namespace Go.Pv.R
open List Int IntKind
theorem azK (a b:List UInt8):(⟨a.toArray⟩++⟨b.toArray⟩:ByteArray)=⟨(a++b).toArray⟩:=by apply sF;rw[qg];simp
theorem aCI (b:ByteArray):(⟨#[]⟩:ByteArray)++b=b:=by apply sF;rw[qg];simp
theorem aiR (l:List UInt8):ByteArray.size ⟨l.toArray⟩=l.length:=by simp[ByteArray.size]
def dg (u:Nat):List UInt8:=if u=0 then [] else Lib.decDigits u
theorem avw {u:Nat} (h:u≠0):dg u=dg (u/10)++[UInt8.ofNat (48+u%10)]:=by
 unfold dg;rw[ar h];rw[Lib.decDigits];by_cases h1:u<10
 ·rw[jc h1,ay (by omega),mG h1];rfl
 rw[pf h1,ar (by omega)]
theorem Le:∀ (m u:Nat),u<10^(m+1)->(Lib.decDigits u).length<=m+1:=by
 intro m;induction m with
 |zero=>intro u hu;rw[Lib.decDigits,jc (by omega)];simp
 |succ m ih=>
 intro u hu;rw[Lib.decDigits];by_cases h1:u<10
 ·rw[jc h1];simp
 rw[pf h1];have:=ih (u/10) (by rw[oo] at hu;omega);simp only[ax,ak,ao];omega
def M9 (n:Int):Prop:=-9223372036854775808<=n/\n<=9223372036854775807
theorem fT {n:Int} (h:M9 n):(qX n).size<=20:=by
 unfold qX;rw[aiR];unfold Lib.itoa;obtain⟨h1,h2⟩:=h;split
 ·have:=Le 18 n.natAbs (by omega);simp only[ak];omega
 have:=Le 18 n.toNat (by omega);omega
theorem aiS {d:Nat} (h:d<10):bytesOf [wrap .u8 (wrap .i64 ((48:Int)+(d:Int)))]=⟨[UInt8.ofNat (48+d)].toArray⟩:=by
 have h1:wrap .i64 ((48:Int)+(d:Int))=48+(d:Int):=iD;have h2:wrap .u8 ((48:Int)+(d:Int))=48+(d:Int):=by have hd:d=0∨d=1∨d=2∨d=3∨d=4∨d=5∨d=6∨d=7∨d=8∨d=9:=(by omega);rcases hd with rfl |rfl |rfl |rfl |rfl |rfl |rfl |rfl |rfl |rfl<;>rfl
 rw[h1,h2];have h3:((48:Int)+(d:Int)).toNat=48+d:=by omega
 simp only[bytesOf,lh,List.foldl_nil,h3];apply sF;rw[ByteArray.data_push];rfl
theorem aiT (x:Int):(0<=x/\Int.tdiv x 10=x/10/\Int.tmod x 10=x%10)∨(x<0/\Int.tdiv x 10=-((-x)/10)/\Int.tmod x 10=-((-x)%10)):=by
 by_cases h:0<=x
 ·exact .inl ⟨h,oP h,eh h⟩
 refine .inr ⟨by omega,?_,?_⟩
 ·have h1:=Int.neg_tdiv (-x) 10;rw[Int.neg_neg] at h1;rw[h1,oP (by omega)]
 have h1:=Int.neg_tmod (-x) 10;rw[Int.neg_neg] at h1;rw[h1,eh (by omega)]
theorem asH {x0:Int} {k:ByteArray->aa}:∀ (m n:Nat) (x:Int) (acc:ByteArray),x.natAbs<10^m->m<n->M9 x->acc.size+m<=1000->iq x0 n k acc x=k (⟨(dg x.natAbs).toArray⟩++acc):=by
 intro m;induction m with
 |zero=>
 intro n x acc hx hn hr hs;obtain⟨n,rfl⟩:∃ n',n=n'+1:=⟨n - 1,by omega⟩;have:x=0:=by omega
 subst this;simp only[iq,eQ,ae];show k acc=k (⟨#[]⟩++acc);rw[aCI]
 |succ m ih=>
 intro n x acc hx hn hr hs;obtain⟨n,rfl⟩:∃ n',n=n'+1:=⟨n - 1,by omega⟩;by_cases h0:x=0
 ·subst h0;simp only[iq,eQ,ae];show k acc=k (⟨#[]⟩++acc);rw[aCI]
 have wj:(x != (0:Int))=true:=by simpa using h0
 obtain⟨hr1,hr2⟩:=hr;have hu:x.natAbs≠0:=by omega
 have hd:x.natAbs%10<10:=by omega
 have hq:(Int.tdiv x 10).natAbs=x.natAbs/10:=by rw[Int.natAbs_tdiv];rfl
 have ht:=Int.mul_tdiv_add_tmod x 10;have hb: -9223372036854775808<=Int.tdiv x 10/\Int.tdiv x 10<=9223372036854775807:=by omega
 have hj:vL (iq x0 n k) acc x ((x.natAbs%10:Nat):Int)=k (⟨(dg x.natAbs).toArray⟩++acc):=by unfold vL;rw[aiS hd,aiR,af (by simp only[ak,ao];omega),ab,iD,ih n _ _ (by rw[hq,oo] at*;omega) (by omega) hb (by rw[ByteArray.size_append,aiR];simp only[ak,ao];omega),hq,←ByteArray.append_assoc,azK (dg (x.natAbs/10)) [UInt8.ofNat (48+x.natAbs%10)],←avw hu]
 simp only[iq,wj,ab];by_cases alz:Int.tmod x 10<0
 ·rw[af alz,ab];have e:wrap .i64 (0 - Int.tmod x 10)=((x.natAbs%10:Nat):Int):=by
   rcases aiT x with⟨q1,q2,q3⟩ |⟨q1,q2,q3⟩
   ·omega
   rw[q3,iD];omega
  rw[e];exact hj
 rw[an alz,ae];have e:Int.tmod x 10=((x.natAbs%10:Nat):Int):=by rcases aiT x with⟨q1,q2,q3⟩ |⟨q1,q2,q3⟩<;>omega
 rw[e];exact hj
theorem eN {N:Nat} {n:Int} {kf:ByteArray->aa} (h:M9 n) (hN:20<N):cn N n kf=kf (qX n):=by
 unfold cn;obtain⟨h1,h2⟩:=h;by_cases h0:n=0
 ·subst h0;have e:qX 0=s_0:=by unfold qX Lib.itoa;rw[ar (by decide),Lib.decDigits,jc (by decide)];rfl
  rw[e];rfl
 have wj:(n==(0:Int))=false:=bw.2 h0;rw[wj,ae,asH 19 N n _ (by omega) (by omega) ⟨h1,h2⟩ (by show(0:Nat)+19<=1000;omega)];have hl:=Le 18 n.natAbs (by omega);have hdg:dg n.natAbs=Lib.decDigits n.natAbs:=by unfold dg;rw[ar (by omega)]
 have hs:(⟨(dg n.natAbs).toArray⟩++D9:ByteArray)=⟨(Lib.decDigits n.natAbs).toArray⟩:=by rw[hdg];show _++(⟨([]:List UInt8).toArray⟩:ByteArray)=_;rw[azK,b6]
 rw[hs];by_cases alz:n<0
 ·rw[af alz,ab];have e1:im=⟨[(45:UInt8)].toArray⟩:=rfl;rw[e1,aiR,aiR,af (by simp only[ak,ao];omega),ab,azK];unfold qX Lib.itoa;rw[ay alz];rfl
 rw[an alz,ae];unfold qX Lib.itoa;rw[ar alz];have:n.natAbs=n.toNat:=by omega
 rw[this]
theorem fh {N:Nat} {n:Int} {kf:ByteArray->aa} (h:M9 n):cO N n kf=kf (qX n):=by unfold cO ay4;rw[af h.1,af h.2];rfl
end Go.Pv.R
namespace Go.Pv.R
open List Int IntKind
theorem adG {a b:ByteArray} (h:a.data.toList=b.data.toList):a=b:=sF (Array.ext' h)
theorem Qj (a b:ByteArray):(a++b).data.toList=a.data.toList++b.data.toList:=by rw[qg,nG]
theorem dq (a b:ByteArray):(a++b).size=a.size+b.size:=ByteArray.size_append
def Ow (sep:ByteArray) (r:List ByteArray):ByteArray:=⟨(Lib.joinTail sep.data.toList (r.map (·.data.toList))).toArray⟩
theorem alA (sep x:ByteArray) (r:List ByteArray) (s:ByteArray):((s++sep)++x)++Ow sep r=s++Ow sep (x::r):=by apply adG;simp only[Qj,Ow,Lib.joinTail,bz,gv,bu]
theorem aoT (sep s:ByteArray):s++Ow sep []=s:=by apply adG;simp[Qj,Ow,Lib.joinTail]
theorem aco (sep x:ByteArray) (r:List ByteArray):JU (x::r) sep=x++Ow sep r:=by apply adG;simp only[Qj,Ow,JU,bz,Lib.join_cons]
theorem acp (sep:ByteArray):∀ (r:List ByteArray) (m:Nat),(∀ y∈r,y.size<=m)->(Ow sep r).size<=(sep.size+m)*r.length
 |[],m,_=>by show(0:Nat)<=_;omega
 |x::r,m,h=>by have ih:=acp sep r m (λy hy=>h y (by simp[hy]));have hx:=h x (by simp);have e:Ow sep (x::r)=(sep++x)++Ow sep r:=(by apply adG;simp only[Qj,Ow,Lib.joinTail,bz,gv,bu]);rw[e,dq,dq,ak,vV];omega
theorem alB {sep:ByteArray} {r:List ByteArray} {m:Nat} (h:∀ y∈r,y.size<=m):(JU r sep).size<=(sep.size+m)*r.length:=by
 cases r with
 |nil=>show(0:Nat)<=_;omega
 |cons x r=>rw[aco,dq,ak,vV];have:=acp sep r m (λy hy=>h y (by simp[hy]));have:=h x (by simp);omega
theorem aeP {sep:ByteArray} {body:Nat->ByteArray->ByteArray->(ByteArray->aa)->aa} {k:ByteArray->aa} {m L:Nat} (hL:(sep.size+m)*(L+1)<=9000000000000000000) (hb:∀ (i:Nat) (x s:ByteArray) (next:ByteArray->aa),0<i->(s++sep).size<=9223372036854775807->((s++sep)++x).size<=9223372036854775807->body i x s next=next ((s++sep)++x)): ∀ (r:List ByteArray) (i:Nat) (s:ByteArray),0<i->i+r.length<=L->(∀ y∈r,y.size<=m)->s.size<=(sep.size+m)*i->dU body k r i s=k (s++Ow sep r)
 |[],i,s,_,_,_,_=>by rw[aoT];rfl
 |x::r,i,s,hi,hl,hr,hs=>by have hx:=hr x (by simp);simp only[ak] at hl;have h1:(sep.size+m)*(i+1)<=(sep.size+m)*(L+1):=pj _ (by omega);rw[vV] at h1;simp only[dU];rw[hb i x s _ hi (by rw[dq];omega) (by rw[dq,dq];omega),aeP hL hb r (i+1) _ (by omega) (by omega) (λy hy=>hr y (by simp[hy])) (by rw[dq,dq,vV];omega),alA]
def J' (l:List ByteArray):ByteArray:=match l with
 |[]=>im
 |x::r=>JU (x::r) Bg
theorem Gr {N:Nat} {l:List ByteArray} {kf:ByteArray->aa} (hm:∀ y∈l,y.size<=200) (hl:l.length<=1048576) (hN:l.length<N):q7 N l kf=kf (J' l):=by
 have h0:=aU;unfold q7;rw[VY (by omega) hN];cases l with
 |nil=>rfl
 |cons x r=>
 have hx:=hm x (by simp);simp only[ak] at hl;have e1:Bg.size=1:=rfl;have e0:D9.size=0:=rfl;simp only[dU];rw[il,ae,dZ,ab,aeP (sep:=Bg) (m:=200) (L:=1048577) (by omega) (λi x s next hi h1 h2=>?_) r (0+1) _ (by omega) (by omega) (λy hy=>hm y (by simp[hy])) (by rw[dq];omega)]
 ·have e2:((length (x::r):Int)==(0:Int))=false:=bw.2 (by simp only[ak];omega);rw[e2,ae];show _=kf (JU (x::r) Bg);rw[aco];congr 1
 rw[dq] at h1 h2;rw[dZ,ab,dZ,dZ];rfl
theorem IV {N:Nat} {l:List ByteArray} {kf:ByteArray->aa} (hm:∀ y∈l,y.size<=200) (hl:l.length<=1048576):tL N l kf=kf (J' l):=by
 unfold tL;cases l with
 |nil=>rfl
 |cons x r=>have e2:((length (x::r):Int)==(0:Int))=false:=bw.2 (by simp only[ak];omega);rw[e2,ae];unfold avl J';have h1:=alB (sep:=Bg) hm;have e1:Bg.size=1:=rfl;have h2:(Bg.size+200)*(x::r).length<=(Bg.size+200)*1048576:=pj _ hl;have e3:Nat.ble (length (x::r)) 140737488355328=true:=(by rw[qF];omega);have e4:Nat.ble (ByteArray.size (JU (x::r) Bg)) 140737488355328=true:=(by rw[qF];omega);rw[e3,e4];rfl
theorem Fw {α β:Type} {c:Nat->α->Bool} {f:Nat->α->β} {y:β}:∀ {l:List α} {i:Nat},y∈lF c f l i->∃ j x,x∈l/\y=f j x
 |[],i,h=>by simp[lF] at h
 |x::r,i,h=>by
  simp only[lF] at h;cases hc:c i x with
  |true=>
  rw[hc,ab] at h;rcases aS.1 h with rfl |h
  ·exact⟨i,x,by simp,rfl⟩
  obtain⟨j,z,hz,e⟩:=Fw h;exact⟨j,z,by simp[hz],e⟩
  |false=>rw[hc,ae] at h;obtain⟨j,z,hz,e⟩:=Fw h;exact⟨j,z,by simp[hz],e⟩
def ZF (l:List Int):List ByteArray:=lF (λ_ _=>true) (λ_ x=>qX x) l 0
theorem Wk {l:List Int} (h:∀ x∈l,M9 x) (hl:l.length<=1048576):(∀ y∈ZF l,y.size<=200)/\(ZF l).length<=1048576:=by have:=rp (c:=λ_ _=>true) (f:=λ_ (x:Int)=>qX x) l 0;refine⟨λy hy=>?_,by unfold ZF;omega⟩;obtain⟨j,x,hx,rfl⟩:=Fw hy;have:=fT (h x hx);omega
theorem vp {N:Nat} {l:List Int} {kf:ByteArray->aa} (h:∀ x∈l,M9 x) (hl:l.length<=1048576) (hN:l.length+20<N):gy N l kf=kf (J' (ZF l)):=by
 have h0:=aU;have hlen:=rp (c:=λ_ _=>true) (f:=λ_ (x:Int)=>qX x) l 0;unfold gy;rw[Mn (by omega) (by omega),mT (l:=l) (c:=λ_ _=>true) (f:=λ_ x=>qX x) (λi x s next hi e hs=>?_) l 0 [] rfl (by simp)]
 ·rw[bU];exact Gr (Wk h hl).1 (Wk h hl).2 (by show(lF _ _ l 0).length<N;omega)
 rw[eN (h x (by rw[←e];exact aK hi)) (by omega),axE (by simp only[ak,ao];omega) (by decide)];rfl
theorem vq {N:Nat} {l:List Int} {kf:ByteArray->aa} (h:∀ x∈l,M9 x) (hl:l.length<=1048576) (hN:l.length+20<N):gz N l kf=kf (J' (ZF l)):=by
 have h0:=aU;have hlen:=rp (c:=λ_ _=>true) (f:=λ_ (x:Int)=>qX x) l 0;unfold gz;rw[Mp (by omega) (by omega),mT (l:=l) (c:=λ_ _=>true) (f:=λ_ x=>qX x) (λi x s next hi e hs=>?_) l 0 [] rfl (by simp)]
 ·rw[bU];exact IV (Wk h hl).1 (Wk h hl).2
 rw[fh (h x (by rw[←e];exact aK hi)),axE (by simp only[ak,ao];omega) (by decide)];rfl
end Go.Pv.R
namespace Go.Pv.R
open List Int IntKind
theorem sm {a b:Nat} (h:a+b<=4000):decide (a+b<=9223372036854775807)=true:=dZ
theorem aiU {n:Nat} (h:n<=maxLen):M9 (n:Int):=by have:=aU;exact⟨by omega,by omega⟩
def aiV (x:bn):ByteArray:=((((((qX x.1++nC)++qX x.2.2.1)++rZ)++qX (length x.2.2.2.2.2:Int))++Ag)++qX x.2.2.2.1)
structure acq (x:bn):Prop where
 h1:M9 x.1
 h2:M9 x.2.2.1
 h3:M9 (length x.2.2.2.2.2:Int)
 h4:M9 x.2.2.2.1
theorem alC {x:bn} (h:acq x):(aiV x).size<=200:=by have a1:=fT h.h1;have a2:=fT h.h2;have a3:=fT h.h3;have a4:=fT h.h4;have c1:nC.size=1:=rfl;have c2:rZ.size=1:=rfl;have c3:Ag.size=1:=rfl;unfold aiV;simp only[dq];omega
def Ul (l:List bn):List ByteArray:=lF (λ_ _=>true) (λ_ x=>aiV x) l 0
theorem aeQ {l:List bn} (h:∀ x∈l,acq x) (hl:l.length<=1048576):(∀ y∈Ul l,y.size<=200)/\(Ul l).length<=l.length:=by refine⟨λy hy=>?_,rp l 0⟩;obtain⟨j,x,hx,rfl⟩:=Fw hy;exact alC (h x hx)
theorem R7 {N:Nat} {l:List bn} {kf:ByteArray->aa} (h:∀ x∈l,acq x) (hl:l.length<=1048576) (hN:l.length+20<N):sW N l kf=kf (J' (Ul l)):=by
 have h0:=aU;unfold sW;rw[OZ (by omega) (by omega),mT (l:=l) (c:=λ_ _=>true) (f:=λ_ x=>aiV x) (λi x s next hi e hs=>?_) l 0 [] rfl (by simp)]
 ·rw[bU];have hb:=aeQ h hl;have hb2:=hb.2;show q7 N (Ul l) kf=_;exact Gr hb.1 (by omega) (by omega)
 have q:=h x (by rw[←e];exact aK hi);have a1:=fT q.h1;have a2:=fT q.h2;have a3:=fT q.h3;have a4:=fT q.h4;have c1:nC.size=1:=rfl;have c2:rZ.size=1:=rfl;have c3:Ag.size=1:=rfl;rw[eN q.h1 (by omega),sm (by first |omega |(simp only[dq];omega)),ab,eN q.h2 (by omega),sm (by first |omega |(simp only[dq];omega)),ab,sm (by first |omega |(simp only[dq];omega)),ab,eN q.h3 (by omega),sm (by first |omega |(simp only[dq];omega)),ab,sm (by first |omega |(simp only[dq];omega)),ab,eN q.h4 (by omega),sm (by first |omega |(simp only[dq];omega)),ab,af (by simp only[ak,ao];omega)];rfl
theorem R8 {N:Nat} {l:List bn} {kf:ByteArray->aa} (h:∀ x∈l,acq x) (hl:l.length<=1048576) (hN:l.length+20<N):s5 N l kf=kf (J' (Ul l)):=by
 have h0:=aU;unfold s5;rw[O5 (by omega) (by omega),mT (l:=l) (c:=λ_ _=>true) (f:=λ_ x=>aiV x) (λi x s next hi e hs=>?_) l 0 [] rfl (by simp)]
 ·rw[bU];have hb:=aeQ h hl;have hb2:=hb.2;show tL N (Ul l) kf=_;exact IV hb.1 (by omega)
 have q:=h x (by rw[←e];exact aK hi);have a1:=fT q.h1;have a2:=fT q.h2;have a3:=fT q.h3;have a4:=fT q.h4;have c1:nC.size=1:=rfl;have c2:rZ.size=1:=rfl;have c3:Ag.size=1:=rfl;rw[fh q.h1,sm (by first |omega |(simp only[dq];omega)),ab,fh q.h2,sm (by first |omega |(simp only[dq];omega)),ab,sm (by first |omega |(simp only[dq];omega)),ab,fh q.h3,sm (by first |omega |(simp only[dq];omega)),ab,sm (by first |omega |(simp only[dq];omega)),ab,fh q.h4,sm (by first |omega |(simp only[dq];omega)),ab,af (by simp only[ak,ao];omega)];rfl
def acr (s:List Int) (i:Nat):ByteArray:=bif decide (i<s.length) then qX (s.getD i 0) else LU
def aeR (s:List Int) (i:Nat) (x:ij):ByteArray:=((((qX x.1++im)++qX x.2)++r9)++acr s i)
def Um (s:List Int) (l:List ij):List ByteArray:=lF (λ_ _=>true) (aeR s) l 0
theorem Un {s:List Int} (h:∀ x∈s,M9 x) (i:Nat):(acr s i).size<=20:=by
 unfold acr;by_cases hi:i<s.length
 ·rw[af hi,ab,aO _ _ hi];exact fT (h _ (aK hi))
 rw[an hi];show LU.size<=20;have:LU.size=1:=rfl;omega
theorem aeS {s:List Int} {l:List ij} (hs:∀ x∈s,M9 x) (h:∀ x∈l,M9 x.1/\M9 x.2):(∀ y∈Um s l,y.size<=200)/\(Um s l).length<=l.length:=by refine⟨λy hy=>?_,rp l 0⟩;obtain⟨j,x,hx,rfl⟩:=Fw hy;obtain⟨q1,q2⟩:=h x hx;have a1:=fT q1;have a2:=fT q2;have a3:=Un hs j;have c1:im.size=1:=rfl;have c2:r9.size=1:=rfl;unfold aeR;simp only[dq];omega
theorem R9 {N:Nat} {l:List ij} {s:List Int} {kf:ByteArray->aa} (hs:∀ x∈s,M9 x) (h:∀ x∈l,M9 x.1/\M9 x.2) (hl:l.length<=1048576) (hN:l.length+20<N):sX N l s kf=kf (J' (Um s l)):=by
 have h0:=aU;unfold sX;rw[O0 (by omega) (by omega),mT (l:=l) (c:=λ_ _=>true) (f:=aeR s) (λi x s' next hi e JD=>?_) l 0 [] rfl (by simp)]
 ·rw[bU];have hb:=aeS hs h;have hb2:=hb.2;show q7 N (Um s l) kf=_;exact Gr hb.1 (by omega) (by omega)
 obtain⟨q1,q2⟩:=h x (by rw[←e];exact aK hi);have a1:=fT q1;have a2:=fT q2;have a3:=Un hs i;have c1:im.size=1:=rfl;have c2:r9.size=1:=rfl;have c3:LU.size=1:=rfl;unfold aeR acr;unfold acr at a3;by_cases Ba:i<s.length
 ·have q3:=hs _ (aK Ba);rw[af Ba,ab,aO _ _ Ba] at a3 ⊢;rw[af (show(i:Int)<(length s:Int) by omega),ab,aL Ba,ab,aj,aO _ _ Ba,eN q3 (by omega)];rw[eN q1 (by omega),sm (by first |omega |(simp only[dq];omega)),ab,eN q2 (by omega),sm (by first |omega |(simp only[dq];omega)),ab,sm (by first |omega |(simp only[dq];omega)),ab,sm (by first |omega |(simp only[dq];omega)),ab,af (by simp only[ak,ao];omega)];rfl
 rw[an Ba,ae,an (show ¬(i:Int)<(length s:Int) by omega),ae];rw[eN q1 (by omega),sm (by first |omega |(simp only[dq];omega)),ab,eN q2 (by omega),sm (by first |omega |(simp only[dq];omega)),ab,sm (by first |omega |(simp only[dq];omega)),ab,sm (by first |omega |(simp only[dq];omega)),ab,af (by simp only[ak,ao];omega)];rfl
theorem Sa {N:Nat} {l:List ij} {s:List Int} {kf:ByteArray->aa} (hs:∀ x∈s,M9 x) (h:∀ x∈l,M9 x.1/\M9 x.2) (hl:l.length<=1048576) (hN:l.length+20<N):s6 N l s kf=kf (J' (Um s l)):=by
 have h0:=aU;unfold s6;rw[O6 (by omega) (by omega),mT (l:=l) (c:=λ_ _=>true) (f:=aeR s) (λi x s' next hi e JD=>?_) l 0 [] rfl (by simp)]
 ·rw[bU];have hb:=aeS hs h;have hb2:=hb.2;show tL N (Um s l) kf=_;exact IV hb.1 (by omega)
 obtain⟨q1,q2⟩:=h x (by rw[←e];exact aK hi);have a1:=fT q1;have a2:=fT q2;have a3:=Un hs i;have c1:im.size=1:=rfl;have c2:r9.size=1:=rfl;have c3:LU.size=1:=rfl;unfold aeR acr;unfold acr at a3;by_cases Ba:i<s.length
 ·have q3:=hs _ (aK Ba);rw[af Ba,ab,aO _ _ Ba] at a3 ⊢;rw[af (show(i:Int)<(length s:Int) by omega),ab,aL Ba,ab,aj,aO _ _ Ba,fh q3];rw[fh q1,sm (by first |omega |(simp only[dq];omega)),ab,fh q2,sm (by first |omega |(simp only[dq];omega)),ab,sm (by first |omega |(simp only[dq];omega)),ab,sm (by first |omega |(simp only[dq];omega)),ab,af (by simp only[ak,ao];omega)];rfl
 rw[an Ba,ae,an (show ¬(i:Int)<(length s:Int) by omega),ae];rw[fh q1,sm (by first |omega |(simp only[dq];omega)),ab,fh q2,sm (by first |omega |(simp only[dq];omega)),ab,sm (by first |omega |(simp only[dq];omega)),ab,sm (by first |omega |(simp only[dq];omega)),ab,af (by simp only[ak,ao];omega)];rfl
theorem asI {c:bE} {N:Nat} (h:cS c N) (hp:M9 c.2.2.2.2.2.2):∀ x∈[(length c.1:Int),(length c.2.1:Int),(length c.2.2.1:Int),(length (dw c):Int),c.2.2.2.2.2.2,(length c.2.2.2.2.2.1:Int)],M9 x:=by
 have h0:=aU;have h1:=aeL c;have h2:=h.bl;have h3:=h.rl;have h4:=h.ml;intro x hx;simp only[aS,List.mem_nil_iff,or_false] at hx;rcases hx with rfl |rfl |rfl |rfl |rfl |rfl
 ·exact aiU h.tl
 ·exact aiU h.jl
 ·exact aiU (by omega)
 ·exact aiU (by omega)
 ·exact hp
 exact aiU (by omega)
end Go.Pv.R
namespace Go.Pv.R
open List Int IntKind
end Go.Pv.R
namespace Go.Pv.R
open List Int IntKind
theorem zO {N:Nat} {a b:Int} {kf:Int->aa}:oO N a b kf=kf (bif decide (a<b) then -1 else bif decide (a>b) then 1 else 0):=by unfold oO cmp_isNaN_int;simp only[eQ,ae];cases decide (a<b)<;>cases decide (a>b)<;>rfl
end Go.Pv.R
namespace Go.Pv.R
open List Int IntKind
def bY (l:List UInt8):ByteArray:=⟨l.toArray⟩
theorem Yx (b:ByteArray):bY b.data.toList=b:=adG (by simp[bY])
theorem Am (l:List UInt8):(bY l).data.toList=l:=by simp[bY]
def O' (c:UInt8):List UInt8->List (List UInt8)
 |[]=>[[]]
 |b::r=>bif b==c then []::O' c r else(match O' c r with
  |[]=>[[b]]
  |w::ws=>(b::w)::ws)
theorem asJ (c:UInt8):∀ l,O' c l≠[]
 |[]=>by simp[O']
 |b::r=>by
  simp only[O'];cases b==c with
  |true=>simp
  |false=>
  cases O' c r with
  |nil=>simp
  |cons w ws=>simp
theorem Mv (c:UInt8) (l:List UInt8):∃ w ws,O' c l=w::ws:=by
 cases h:O' c l with
 |nil=>exact absurd h (asJ c l)
 |cons w ws=>exact⟨w,ws,rfl⟩
theorem aaw (c:UInt8):∀ l,(O' c l).length<=l.length+1
 |[]=>by simp[O']
 |b::r=>by
  have ih:=aaw c r;simp only[O'];cases b==c with
  |true=>simp only[ab,ak];omega
  |false=>obtain⟨w,ws,e⟩:=Mv c r;rw[e] at ih ⊢;simp only[ae,ak] at ih ⊢;omega
theorem acs (c:UInt8):∀ l:List UInt8,Lib.splitK [c] 0 (l.count c) l=O' c l
 |[]=>rfl
 |b::l=>by
  have ih:=acs c l;by_cases hb:b=c
  ·subst hb;have e1:(b::l).count b=l.count b+1:=by simp
   have e2:Lib.index (b::l) [b]=0:=(by rw[zH];unfold Lib.indexByte;simp);rw[e1];unfold Lib.splitK;rw[e2,ar (by decide)];simp only[O',gh,ab];rw[←ih];rfl
  have hbc:(b==c)=false:=bw.2 hb;have e1:(b::l).count c=l.count c:=List.count_cons_of_ne (by simpa using hb);rw[e1];simp only[O',hbc,ae];rw[←ih];cases hk:l.count c with
  |zero=>rfl
  |succ k=>
  have hm:c∈l:=pw.1 (by omega);have hge:=Lib.indexByte_ge l c;have wj:Lib.indexByte l c≠ -1:=by
   intro hx;have:∀ (l:List UInt8),c∈l->Lib.indexByte l c≠ -1:=by
    intro l;induction l with
    |nil=>intro h;cases h
    |cons d l ih=>
    intro h;unfold Lib.indexByte;by_cases hd:d=c
    ·subst hd;simp
    rw[ar (by simpa using hd)];have h1:=ih (by rcases aS.1 h with h |h;exact absurd h.symm hd;exact h);have h2:=Lib.indexByte_ge l c;rw[ar (by simpa using h1)];omega
   exact this l hm hx
  have e2:Lib.index (b::l) [c]=Lib.indexByte l c+1:=(by rw[zH];show(if b==c then(0:Int) else if Lib.indexByte l c== -1 then -1 else Lib.indexByte l c+1)=_;rw[ar (by simpa using hb),ar (by simpa using wj)]);unfold Lib.splitK;rw[e2,zH,ar (by simp;omega),ar (by simpa using wj)];have e3:(Lib.indexByte l c+1).toNat=(Lib.indexByte l c).toNat+1:=(by omega);rw[e3];rfl
theorem aeT (s:ByteArray) (c:UInt8):Bd s ⟨#[c]⟩=(O' c s.data.toList).map bY:=by
 have h1:=Lib.splitB_data ⟨#[c]⟩ 0 (Lib.countB s ⟨#[c]⟩) s;have h2:Lib.countB s ⟨#[c]⟩=s.data.toList.count c:=by show Lib.count s.data.toList [c]=_;rw[Lib.count_one]
 rw[h2] at h1;have h3:Lib.splitK (⟨#[c]⟩:ByteArray).data.toList 0 (s.data.toList.count c) s.data.toList=O' c s.data.toList:=acs c _;rw[h3] at h1;unfold Bd;rw[h2,←h1,nZ];have:(bY∘λb:ByteArray=>b.data.toList)=id:=funext λb=>Yx b;rw[this,List.map_id]
theorem asK {s:ByteArray} {i:Nat} (h:i<s.size) (h':i<s.data.toList.length):bt s (i:Int)=((s.data.toList[i]).toNat:Int):=by unfold bt;rw[jc (by simpa using h)];simp only[aj];congr 2
theorem xw (s:ByteArray) (a b:Nat):ByteArray.extract s a b=bY ((s.data.toList.drop a).take (b - a)):=by apply adG;rw[Am,Lib.extract_data]
end Go.Pv.R
namespace Go.Pv.R
open List Int IntKind
def Dk (b:UInt8):Bool:=decide (48<=b.toNat)&&decide (b.toNat<=57)
def val (l:List UInt8) (v:Nat):Nat:=l.foldl (λv b=>10*v+(b.toNat - 48)) v
def okI (l:List UInt8):Bool:=decide (1<=l.length)&&(decide (l.length<=13)&&(l.all Dk&&(decide (val l 0<=1000000000000)&&(decide (l.length=1)|| !(l.headD 0==48)))))
def acu (l:List UInt8):Int:=bif okI l then(val l 0:Int) else 0
theorem An {b:UInt8}:Dk b=true↔48<=b.toNat/\b.toNat<=57:=by unfold Dk;simp
theorem aiW {b:UInt8} (h:Dk b=true):UInt8.ofNat (48+(b.toNat - 48))=b:=by
 obtain⟨h1,h2⟩:=An.1 h;have:48+(b.toNat - 48)=b.toNat:=by omega
 rw[this];exact UInt8.ofNat_toNat
theorem asL (l:List UInt8) (b:UInt8) (v:Nat):val (l++[b]) v=10*val l v+(b.toNat - 48):=by unfold val;rw[List.foldl_append];rfl
theorem azL (l:List UInt8) (v:Nat):v<=val l v:=by
 unfold val;induction l generalizing v with
 |nil=>exact aM _
 |cons b l ih=>simp only[lh];have:=ih (10*v+(b.toNat - 48));omega
theorem avx {b:UInt8} {l:List UInt8} (hb:Dk b=true) (h:b≠48):1<=val (b::l) 0:=by obtain⟨h1,h2⟩:=An.1 hb;have h3:b.toNat≠48:=λe=>h (rn.1 (by rw[e];rfl));have h4:=azL l (10*0+(b.toNat - 48));show 1<=val l (10*0+(b.toNat - 48));omega
theorem adH:∀ (n:Nat) (l:List UInt8),l.length=n->l.all Dk=true->l≠[]->(l.length=1∨l.headD 0≠48)->Lib.decDigits (val l 0)=l:=by
 intro n;induction n with
 |zero=>intro l hl _ wj;exact absurd (dQ hl) wj
 |succ n ih=>
 intro l hl hd wj hh;obtain⟨l',b,rfl⟩:∃ l' b,l=l'++[b]:=⟨l.dropLast,l.getLast wj,(List.dropLast_concat_getLast wj).symm⟩;rw[List.all_append,ai] at hd;have hb:Dk b=true:=by simpa using hd.2
 obtain⟨b1,b2⟩:=An.1 hb;rw[asL];cases hl':l' with
 |nil=>show Lib.decDigits (10*0+(b.toNat - 48))=[b];rw[Lib.decDigits,jc (by omega)];have:48+(10*0+(b.toNat - 48))=48+(b.toNat - 48):=(by omega);rw[this,aiW hb]
 |cons a r=>
 have hlen:(l'++[b]).length≠1:=by rw[hl'];simp
 have hh2:l'.headD 0≠48:=by
  rcases hh with hh |hh
  ·exact absurd hh hlen
  rw[hl'] at hh ⊢;simpa using hh
 have ha:Dk a=true:=by have:=hd.1;rw[hl'] at this;simp at this;exact this.1
 have hv:1<=val l' 0:=by rw[hl'];exact avx ha (by rw[hl'] at hh2;simpa using hh2)
 have e:=ih l' (by rw[ax,ak,ao] at hl;omega) hd.1 (by rw[hl'];simp) (.inr hh2);rw[←hl',Lib.decDigits,pf (by omega)];have e1:(10*val l' 0+(b.toNat - 48))/10=val l' 0:=by omega
 have e2:48+(10*val l' 0+(b.toNat - 48))%10=48+(b.toNat - 48):=by omega
 rw[e1,e2,e,aiW hb]
theorem agk (u:Nat):Lib.decDigits u≠[]:=by rw[Lib.decDigits];split<;>simp
theorem acv:∀ (n u:Nat),u<n->0<u->∀ r,Lib.decDigits u≠48::r:=by
 intro n;induction n with
 |zero=>intro u h;omega
 |succ n ih=>
 intro u hu h0 r he;rw[Lib.decDigits] at he;by_cases h1:u<10
 ·rw[jc h1] at he;injection he with he _;have:=br UInt8.toNat he;have h2:(UInt8.ofNat (48+u)).toNat=48+u:=(by rw[UInt8.toNat_ofNat'];omega);rw[h2] at this;have h3:(48:UInt8).toNat=48:=rfl;omega
 rw[pf h1] at he;cases hd:Lib.decDigits (u/10) with
 |nil=>exact agk _ hd
 |cons a r'=>rw[hd] at he;injection he with he _;subst he;exact ih (u/10) (by omega) (by omega) r' hd
theorem aiX {l:List UInt8} (hd:l.all Dk=true) (wj:1<=l.length):(qX (val l 0:Int)=bY l)↔(decide (l.length=1)|| !(l.headD 0==48))=true:=by
 have e1:qX (val l 0:Int)=bY (Lib.decDigits (val l 0)):=by unfold qX Lib.itoa;rw[ar (by omega),aj];rfl
 rw[e1];have akq:l≠[]:=λe=>by rw[e] at wj;simp at wj
 constructor
 ·intro h;have h1:Lib.decDigits (val l 0)=l:=by have:=br (λb:ByteArray=>b.data.toList) h;simpa[bY] using this
  rw[bd,au];by_cases hl:l.length=1
  ·exact .inl hl
  refine .inr ?_;cases hl2:l with
  |nil=>exact absurd hl2 akq
  |cons a r=>
  cases ha:a==48 with
  |false=>show(!(a==48))=true;rw[ha];rfl
  |true=>
  have ha:=bP.1 ha;subst ha;by_cases hv:val l 0=0
  ·rw[hv,Lib.decDigits,jc (by decide)] at h1;rw[←h1] at hl;exact absurd rfl hl
  exact absurd (h1.trans hl2) (acv _ _ (sr _) (by omega) r)
 intro h;rw[bd,au] at h;rw[adH l.length l rfl hd akq (h.imp id λh=>by simpa using h)]
theorem aiY {b:UInt8} {v:Nat} (hv:v<=10000000000000):wrap .i64 ((wrap .i64 ((10:Int)*(v:Int)))+(wrap .i64 (wrap .u8 ((b.toNat:Int) - (48:Int)))))=((10*v+(b.toNat - 48):Nat):Int)∨Dk b=false:=by
 cases hb:Dk b with
 |false=>exact .inr rfl
 |true=>obtain⟨h1,h2⟩:=An.1 hb;refine .inl ?_;have e1:wrap .u8 ((b.toNat:Int) - (48:Int))=((b.toNat - 48:Nat):Int):=(by obtain⟨d,hd⟩:∃ d,d=b.toNat - 48:=⟨_,rfl⟩;have hd2:(b.toNat:Int) - 48=(d:Int):=(by omega);rw[hd2,←hd];have hd3:d=0∨d=1∨d=2∨d=3∨d=4∨d=5∨d=6∨d=7∨d=8∨d=9:=(by omega);rcases hd3 with rfl |rfl |rfl |rfl |rfl |rfl |rfl |rfl |rfl |rfl<;>rfl);rw[e1,iD (n:=(10:Int)*(v:Int)),iD (n:=((b.toNat - 48:Nat):Int)),iD];omega
theorem SW {N:Nat} {s:ByteArray} {k:Int->aa} {kf:Int->Bool->aa} (hs:s.size<=13):∀ (r:List UInt8) (i fuel v:Nat),s.data.toList.drop i=r->v<10^i->r.length<fuel-> pO N s fuel k kf (v:Int) (i:Int)=bif r.all Dk then k (val r v:Int) else kf 0 false
 |[],i,fuel,v,hd,hv,hf=>by have rz:s.data.toList.length=s.size:=(Lib.size_eq s).symm;have lT:s.size<=i:=(by have:=br length hd;simp only[aX,ao] at this;omega);obtain⟨f,rfl⟩:∃ f,fuel=f+1:=⟨fuel - 1,by simp only[ao] at hf;omega⟩;simp only[pO];rw[il];rfl
 |b::r,i,fuel,v,hd,hv,hf=>by
  have rz:s.data.toList.length=s.size:=(Lib.size_eq s).symm;have gC:i<s.data.toList.length:=(by have:=br length hd;simp only[aX,ak] at this;omega);rw[aT gC] at hd;injection hd with hb hd;obtain⟨f,rfl⟩:∃ f,fuel=f+1:=⟨fuel - 1,by omega⟩;simp only[ak] at hf;have Rv:bt s (i:Int)=(b.toNat:Int):=(by rw[asK (by omega) gC,hb]);have hb8:=b.toNat_lt;have h13:10^i<=10^12:=sL (by omega) (by omega);simp only[pO,ju];rw[dZ,ab,aL (by omega),ab,Rv,iD (n:=(b.toNat:Int))];have hr:pk (b.toNat:Int) 48 57=Dk b:=(by apply b7.2;rw[mv,An];omega);rw[hr,lO];cases alD:Dk b with
  |false=>rfl
  |true=>
   rcases aiY (b:=b) (v:=v) (by omega) with e |e
   rotate_left
   ·rw[alD] at e;cases e
   have hw:wrap .i64 ((i:Int)+(1:Int))=((i+1:Nat):Int):=by rw[iD];omega
   obtain⟨h1,h2⟩:=An.1 alD
   simp only[az,ae,aA]
   rw[ab,e,hw,SW hs r (i+1) f _ hd (by rw[oo];omega) (by omega)]
   rfl
theorem Yy {N:Nat} {s:ByteArray} {kf:Int->Bool->aa} (hN:40<N):yc N s kf=kf (acu s.data.toList) (okI s.data.toList):=by
 have rz:s.data.toList.length=s.size:=(Lib.size_eq s).symm
 unfold yc acu okI
 rw[ju]
 by_cases h1:1<=s.data.toList.length
 rotate_left
 ·have e:pk (ByteArray.size s:Int) 1 13=false:=by
   cases hx:pk (ByteArray.size s:Int) 1 13 with
   |false=>rfl
   |true=>rw[mv] at hx;omega
  rw[e,an h1]
  rfl
 by_cases h2:s.data.toList.length<=13
 rotate_left
 ·have e:pk (ByteArray.size s:Int) 1 13=false:=by
   cases hx:pk (ByteArray.size s:Int) 1 13 with
   |false=>rfl
   |true=>rw[mv] at hx;omega
  rw[e,an h2,fi,dN]
  rfl
 have e:pk (ByteArray.size s:Int) 1 13=true:=mv.2 ⟨by omega,by omega⟩
 rw[e,af h1,af h2]
 simp only[az,ae,aA]
 have hl:=SW (N:=N) (kf:=kf) (k:=λOg=>bif decide (Og>(1000000000000:Int)) then kf 0 false else cn N Og λakP=>bif !(ByteArray.toList akP==ByteArray.toList s) then kf 0 false else kf Og true) (s:=s) (by omega) s.data.toList 0 N 0 rfl (by simp) (by omega)
 refine hl.trans ?_
 cases hd:s.data.toList.all Dk with
 |false=>rfl
 |true=>
  simp only[ab,aA]
  by_cases hv:val s.data.toList 0<=1000000000000
  rotate_left
  ·rw[dZ,an hv];rfl
  ·rw[il,ae,af hv,eN ⟨by omega,by omega⟩ (by omega),aA]
   have xB:=aiX hd h1
   rw[Yx] at xB
   have hb:(ByteArray.toList (qX (val s.data.toList 0:Int))==ByteArray.toList s)=(decide (s.data.toList.length=1)|| !(s.data.toList.headD 0==48)):=by
    apply b7.2
    rw[bP,←xB,gm,gm]
    exact⟨λh=>adG h,λh=>by rw[h]⟩
   rw[hb]
   cases (decide (s.data.toList.length=1)|| !(s.data.toList.headD 0==48))<;>rfl
theorem SX {s:ByteArray} {k:Int->aa} {kf:Int->Bool->aa} (hs:s.size<=13):∀ (r:List UInt8) (i fuel v:Nat),s.data.toList.drop i=r->v<10^i->r.length<fuel-> pQ s (ByteArray.size s:Int) fuel k kf (v:Int) (i:Int)=bif r.all Dk then k (val r v:Int) else kf 0 false
 |[],i,fuel,v,hd,hv,hf=>by have rz:s.data.toList.length=s.size:=(Lib.size_eq s).symm;have lT:s.size<=i:=(by have:=br length hd;simp only[aX,ao] at this;omega);obtain⟨f,rfl⟩:∃ f,fuel=f+1:=⟨fuel - 1,by simp only[ao] at hf;omega⟩;simp only[pQ];rw[il];rfl
 |b::r,i,fuel,v,hd,hv,hf=>by
  have rz:s.data.toList.length=s.size:=(Lib.size_eq s).symm;have gC:i<s.data.toList.length:=(by have:=br length hd;simp only[aX,ak] at this;omega);rw[aT gC] at hd;injection hd with hb hd;obtain⟨f,rfl⟩:∃ f,fuel=f+1:=⟨fuel - 1,by omega⟩;simp only[ak] at hf;have Rv:bt s (i:Int)=(b.toNat:Int):=(by rw[asK (by omega) gC,hb]);have hb8:=b.toNat_lt;have h13:10^i<=10^12:=sL (by omega) (by omega);simp only[pQ];rw[af (show(i:Int)<(ByteArray.size s:Int) by omega),aL (by omega),Rv];simp only[ab];rw[lO];cases alD:Dk b with
  |false=>
  have: ¬(48<=b.toNat/\b.toNat<=57):=λh=>(by rw[An.2 h] at alD;cases alD);by_cases h1:(b.toNat:Int)<48
  ·rw[af h1];rfl
  rw[an h1,ae,af (show(b.toNat:Int)>57 by omega)];rfl
  |true=>
   rcases aiY (b:=b) (v:=v) (by omega) with e |e
   rotate_left
   ·rw[alD] at e;cases e
   have hw:wrap .i64 ((i:Int)+(1:Int))=((i+1:Nat):Int):=by rw[iD];omega
   obtain⟨h1,h2⟩:=An.1 alD
   rw[il,ae,il,ae,e,hw,SX hs r (i+1) f _ hd (by rw[oo];omega) (by omega)]
   rfl
theorem aoU {l:List UInt8} (h:0<l.length):l.headD 0=l[0]:=by
 cases l with
 |nil=>simp at h
 |cons a r=>rfl
theorem IW {N:Nat} {s:ByteArray} {kf:Int->Bool->aa} (hN:40<N) (h1:1<=s.data.toList.length) (h2:s.data.toList.length<=13) (h3:(decide (s.data.toList.length=1)|| !(s.data.toList.headD 0==48))=true):xq N s kf=kf (acu s.data.toList) (okI s.data.toList):=by
 have rz:s.data.toList.length=s.size:=(Lib.size_eq s).symm;unfold xq acu okI;have hl:=SX (kf:=kf) (k:=λarP=>bif decide (arP>(1000000000000:Int)) then kf 0 false else kf arP true) (s:=s) (by omega) s.data.toList 0 N 0 rfl (by simp) (by omega);refine hl.trans ?_;rw[af h1,af h2,h3];simp only[aA,cM];cases hd:s.data.toList.all Dk with
 |false=>rfl
 |true=>
 simp only[ab,aA];by_cases hv:val s.data.toList 0<=1000000000000
 ·rw[il,af hv];rfl
 rw[dZ,an hv];rfl
theorem Yz {N:Nat} {s:ByteArray} {kf:Int->Bool->aa} (hN:40<N):yj N s kf=kf (acu s.data.toList) (okI s.data.toList):=by
 have rz:s.data.toList.length=s.size:=(Lib.size_eq s).symm
 unfold yj
 by_cases h1:1<=s.data.toList.length
 rotate_left
 ·have e:((ByteArray.size s:Int)==(0:Int))=true:=by rw[bP];omega
  rw[e]
  unfold acu okI
  rw[an h1]
  rfl
 have e0:((ByteArray.size s:Int)==(0:Int))=false:=bw.2 (by omega)
 rw[e0,ae]
 by_cases h2:s.data.toList.length<=13
 rotate_left
 ·rw[dZ]
  unfold acu okI
  rw[an h2,fi,dN]
  rfl
 rw[il,ae]
 by_cases h3:s.data.toList.length=1
 ·rw[il,ae]
  exact IW hN h1 h2 (by rw[af h3];rfl)
 ·have gC:0<s.data.toList.length:=by omega
  have Rv:bt s (0:Int)=((s.data.toList[0]).toNat:Int):=asK (i:=0) (by omega) gC
  have hhd:s.data.toList.headD 0=s.data.toList[0]:=aoU gC
  rw[dZ,ab,show(0:Int)=((0:Nat):Int) from rfl,aL (by omega),ab]
  rw[show((0:Nat):Int)=(0:Int) from rfl,Rv]
  have e48:(((s.data.toList[0]).toNat:Int)==(48:Int))=(s.data.toList.headD 0==48):=by
   rw[hhd]
   apply b7.2
   rw[bP,bP]
   constructor
   ·intro h;exact rn.1 (by show _=48;omega)
   ·intro h;rw[h];rfl
  rw[e48]
  cases hh:s.data.toList.headD 0==48 with
  |true=>
   unfold acu okI
   rw[hh,an h3]
   simp only[az,Bool.or_self,dN,ae,ab]
  |false=>exact IW hN h1 h2 (by rw[hh,an h3];rfl)
end Go.Pv.R
namespace Go.Pv.R
open List Int IntKind
end Go.Pv.R
namespace Go.Pv.R
open List Int IntKind
def mw (a b:bn):Bool:=bif a.2.2.1 != b.2.2.1 then decide (a.2.2.1>b.2.2.1) else(bif decide (a.2.2.2.1>b.2.2.2.1) then true else(bif a.2.2.2.1==b.2.2.2.1 then decide (a.1<b.1) else false))
theorem Ka {N:Nat} {a b:bn} {kf:Bool->aa}:wF N a b kf=kf (mw a b):=by
 unfold wF mw;cases (a.2.2.1 != b.2.2.1) with
 |true=>rfl
 |false=>
 simp only[ae];cases decide (a.2.2.2.1>b.2.2.2.1) with
 |true=>rfl
 |false=>simp only[ae];cases (a.2.2.2.1==b.2.2.2.1)<;>rfl
theorem IX {a b:bn}:mw a b=true↔a.2.2.1>b.2.2.1∨(a.2.2.1=b.2.2.1/\(a.2.2.2.1>b.2.2.2.1∨(a.2.2.2.1=b.2.2.2.1/\a.1<b.1))):=by
 unfold mw;by_cases h1:a.2.2.1=b.2.2.1
 ·have e1:(a.2.2.1 != b.2.2.1)=false:=(by simp[h1]);rw[e1,ae];by_cases h2:a.2.2.2.1>b.2.2.2.1
  ·rw[af h2];simp[h1,h2]
  rw[an h2,ae];by_cases h3:a.2.2.2.1=b.2.2.2.1
  ·have e3:(a.2.2.2.1==b.2.2.2.1)=true:=(by simp[h3]);rw[e3,ab];simp[h1,h3]
  have e3:(a.2.2.2.1==b.2.2.2.1)=false:=(by simp[h3]);rw[e3,ae];simp[h1,h2,h3]
 have e1:(a.2.2.1 != b.2.2.1)=true:=by simp[h1]
 rw[e1,ab];simp[h1]
def alE (a b:Int):Int:=bif decide (a<b) then -1 else bif decide (a>b) then 1 else 0
theorem avy (a b:Int):alE a b=if a<b then -1 else if a>b then 1 else 0:=by
 unfold alE;by_cases h1:a<b
 ·rw[af h1,ay h1];rfl
 rw[an h1,ar h1];by_cases h2:a>b
 ·rw[af h2,ay h2];rfl
 rw[an h2,ar h2];rfl
theorem adI {N:Nat} {a b c:Int} {kf:Int->aa} (hN:3<N):NR N [a,b,c] kf=kf (if a≠0 then a else if b≠0 then b else c):=by
 unfold NR;rw[ZZ (by rw[aU];simp) (by simpa using hN)];simp only[EO];by_cases h1:a=0
 ·subst h1;have e1:(((0:Int) != (0:Int)))=false:=by simp
  rw[e1,ae];by_cases h2:b=0
  ·subst h2;rw[e1,ae];by_cases h3:c=0
   ·subst h3;rw[e1,ae];simp
   have e3:(c != 0)=true:=(by simp[h3]);rw[e3,ab];simp
  have e2:(b != 0)=true:=(by simp[h2]);rw[e2,ab];simp[h2]
 have e2:(a != 0)=true:=by simp[h1]
 rw[e2,ab];simp[h1]
def azM (a b:bn):Int:=if alE b.2.2.1 a.2.2.1≠0 then alE b.2.2.1 a.2.2.1 else if alE b.2.2.2.1 a.2.2.2.1≠0 then alE b.2.2.2.1 a.2.2.2.1 else alE a.1 b.1
theorem Uo {N:Nat} {a b:bn} {kf:Int->aa} (hN:3<N):y8 N a b kf=kf (azM a b):=by unfold y8;rw[zO,zO,zO,adI hN];rfl
theorem aiZ (a b:bn):decide (azM a b<0)=mw a b:=by
 rw[b7,IX,au];unfold azM;simp only[avy];rcases ux a.2.2.1 b.2.2.1 with h1 |h1 |h1
 ·have: ¬b.2.2.1<a.2.2.1:=(by omega);simp only[this,cT,ay (show b.2.2.1>a.2.2.1 from h1)];simp;omega
 ·simp only[h1,zG,cT,gt_iff_lt,ne_eq,vm];rcases ux a.2.2.2.1 b.2.2.2.1 with h2 |h2 |h2
  ·have: ¬b.2.2.2.1<a.2.2.2.1:=(by omega);simp only[this,cT,ay h2];simp;omega
  ·simp only[h2,zG,cT,ne_eq,vm];by_cases h3:a.1<b.1
   ·simp[h3]
   simp only[h3,cT];by_cases h4:b.1<a.1
   ·simp[h4]
   simp[h4]
  simp only[ay h2];simp[h2]
 simp only[ay (show b.2.2.1<a.2.2.1 from h1)];simp[h1]
def IY (x:bn) (s:List bn):Nat->Nat
 |0=>0
 |k+1=>bif mw x (s.getD k eZ) then IY x s k else k+1
theorem aax (x:bn) (s:List bn):∀ k,IY x s k<=k
 |0=>aM _
 |k+1=>by
  unfold IY;cases mw x (s.getD k eZ) with
  |true=>exact Nat.le_succ_of_le (aax x s k)
  |false=>exact aM _
def Qk (s:List bn) (x:bn):List bn:=s.take (IY x s s.length)++[x]++s.drop (IY x s s.length)
theorem Wl (s:List bn) (x:bn):(Qk s x).length=s.length+1:=by have:=aax x s s.length;simp[Qk];omega
def IZ (l:List bn):List bn:=l.foldl Qk []
theorem ai0:∀ (l s:List bn),(l.foldl Qk s).length=s.length+l.length
 |[],s=>by simp
 |x::l,s=>by simp only[lh,ai0 l,Wl,ak];omega
theorem Rn (l:List bn):(IZ l).length=l.length:=by simp[IZ,ai0]
def B5 (l:List bn):List Int:=bif bB l then(IZ l).map (λx:bn=>x.1) else []
theorem GU {N:Nat} {l s:List bn} {i:Nat} (hi:i<l.length) (hl:l.length<=1048700) (hs:s.length<=1048700) {kk:Int->aa}:∀ (k n:Nat),k<=s.length->k<n->ns N l s (i:Int) n kk (k:Int)=kk ((IY l[i] s k:Nat):Int)
 |0,n+1,_,_=>by simp only[ns];rfl
 |k+1,n+1,hk,hn=>by
  have hm:=aU;have ew:wrap .i64 (((k+1:Nat):Int) - 1)=((k:Nat):Int):=(by have:=Mr (i:=k+1) (m:=s.length+1) (by omega) (by omega) (by omega);simpa using this);simp only[ns];rw[af (show((k+1:Nat):Int)>0 by omega),ab,aL hi,ab,ew,aL (show k<s.length by omega),ab,Ka,aj,aj,aO l i hi];unfold IY;cases mw l[i] (s.getD k eZ) with
  |true=>simp only[ab];exact GU hi hl hs k n (by omega) (by omega)
  |false=>rfl
theorem Wm {α σ:Type} {body:Nat->α->σ->(σ->aa)->aa} {dX:σ->aa} {g:σ->α->σ} {Inv:Nat->σ->Prop} {l:List α} (hb:∀ (i:Nat) (s:σ) (next:σ->aa) (h:i<l.length),Inv i s->body i l[i] s next=next (g s l[i])/\Inv (i+1) (g s l[i])):∀ (r:List α) (i:Nat) (s:σ),l.drop i=r->Inv i s->dU body dX r i s=dX (r.foldl g s)
 |[],i,s,_,_=>rfl
 |x::r,i,s,hd,hs=>by have gC:i<l.length:=(by have:=br length hd;simp at this;omega);rw[aT gC] at hd;injection hd with h1 h2;subst h1;obtain⟨e1,e2⟩:=hb i s (λs'=>dU body dX r (i+1) s') gC hs;simp only[dU,lh];rw[e1];exact Wm hb r (i+1) _ h2 e2
theorem ai1 {l:List bn} {kf:List Int->aa} (hl:l.length<=1048700):dU (λ(i:Nat) (x:QT) (s:aq) (next:aq->aa)=> bif (decide ((length s+length [x.1])*1<=4398046511104)) then next (s++[x.1]) else none) (λ(s:aq)=>kf s) l 0 []=kf (l.map λx:bn=>x.1):=by
 rw[Wm (l:=l) (g:=λs (x:bn)=>s++[x.1]) (Inv:=λi s=>s.length=i) (λi s next h hs=>⟨by rw[af (by simp only[ak,ao];omega),ab],by simp[hs]⟩) l 0 [] rfl rfl];congr 1;have:∀ (r:List bn) (s:List Int),r.foldl (λs (x:bn)=>s++[x.1]) s=s++r.map λx:bn=>x.1:=by
  intro r;induction r with
  |nil=>intro s;simp
  |cons x r ih=>intro s;simp[ih]
 simpa using this l []
theorem Mw {N:Nat} {l:List bn} {kf:List Int->aa} (hl:l.length<=maxLen) (hm:∀ x∈l,x.met.length<=maxLen/\x.met.length<N) (hN:l.length+1<N):vf N l kf=kf (B5 l):=by
 have hx:=aU;unfold vf B5;rw[T9 hl (by omega)];have ha:∀ kf,dV N l kf=kf (bB l):=λkf=>fS hl hm (by omega);cases nI:bB l with
 |false=>
  have key:∀ (l2:List bn) (body:Nat->bn->List bn->(List bn->aa)->aa) (dX:List bn->aa),(∀ i x s next,body i x s next=dX s)->dU body dX l2 0 []=dX []:=by
   intro l2 body dX h;cases l2 with
   |nil=>rfl
   |cons x r=>simp only[dU];exact h _ _ _ _
  rw[key _ _ _ (λi x s next=>by rw[ha,nI];rfl)];rw[GS (by simp) (by simp;omega)];rfl
 |true=>
 have h10:l.length<=10:=by unfold bB at nI;simp only[ai,au] at nI;exact nI.1
 rw[Wm (l:=l) (g:=Qk) (Inv:=λi s=>s.length=i/\i<=l.length) (λi s next h hs=>⟨by
  obtain⟨h1,h2⟩:=hs
  have hp:=aax l[i] s s.length
  rw[ha,nI]
  simp only[ab]
  rw[GU h (by omega) (by omega) s.length N (aM _) (by omega)]
  have d1:(decide ((0:Int)<=(0:Int))&&decide ((0:Int)<=((IY l[i] s s.length:Nat):Int))&&decide (((IY l[i] s s.length:Nat):Int)<=(length s:Int)))=true:=by simp;omega
  have d2:(decide ((0:Int)<=((IY l[i] s s.length:Nat):Int))&&decide (((IY l[i] s s.length:Nat):Int)<=(length s:Int))&&decide ((length s:Int)<=(length s:Int)))=true:=by simp;omega
  rw[d1,ab,d2,ab,aj,aj,dJ,km,bU]
  have l1:(s.take (IY l[i] s s.length)).length<=s.length:=by rw[aH];omega
  have l2:(s.drop (IY l[i] s s.length)).length<=s.length:=by rw[aX];omega
  rw[af (by simp only[ao];omega),ab,af (by simp only[ak,ao];omega),ab,af (by simp only[ax,ak,ao];omega),ab]
  rfl,by rw[Wl];omega,h⟩) l 0 [] rfl ⟨rfl,by omega⟩]
 have hlen:=Rn l;show jU (IZ l) N kf [] 0=_;rw[GS (by omega) (by omega)];exact ai1 (by omega)
theorem avz {α:Type} (P Q:List α) (y x:α) (z:α):List.set (List.set (P++(y::x::Q)) (P.length+1) y) P.length x=P++(x::y::Q):=by rw[nc _ _ (by omega),nc _ _ (by omega)];simp
def Pb (s:List bn) (x:bn) (rest:List bn) (k:Nat):List bn:=s.take k++(x::(s.drop k++rest))
theorem asM {s rest:List bn} {x:bn} {k:Nat} (hk:k<=s.length):(Pb s x rest k).length=s.length+1+rest.length:=by simp[Pb];omega
theorem acw {N:Nat} {s rest:List bn} {x:bn} {b i:Int} {kk:List bn->aa} (hN:3<N) (hl:s.length+rest.length<=1048700):∀ (k n:Nat),k<=s.length->k<n-> cq N (0:Int) b i n kk (Pb s x rest k) (k:Int)=kk (Pb s x rest (IY x s k))
 |0,n+1,_,_=>by simp only[cq];rfl
 |k+1,n+1,hk,hn=>by
  have hm:=aU;have ew:wrap .i64 (((k+1:Nat):Int) - 1)=((k:Nat):Int):=(by have:=Mr (i:=k+1) (m:=s.length+1) (by omega) (by omega) (by omega);simpa using this);have hlen:=asM (x:=x) (rest:=rest) hk;have e1:s.take (k+1)=s.take k++[s[k]]:=(by rw[List.take_succ_eq_append_getElem (by omega)]);have e2:s.drop k=s[k]::s.drop (k+1):=(by rw[aT (by omega)]);have hP:(s.take k).length=k:=(by rw[aH];omega);have em:Pb s x rest (k+1)=s.take k++(s[k]::x::(s.drop (k+1)++rest)):=(by unfold Pb;rw[e1,bu];rfl);have en:Pb s x rest k=s.take k++(x::s[k]::(s.drop (k+1)++rest)):=(by unfold Pb;rw[e2];rfl);have g1:(Pb s x rest (k+1)).getD (k+1) eZ=x:=(by rw[em,aG,cG (by omega),hP];simp);have g0:(Pb s x rest (k+1)).getD k eZ=s[k]:=(by rw[em,aG,cG (by omega),hP];simp);simp only[cq];rw[af (show((k+1:Nat):Int)>0 by omega),ab,aL (show k+1<(Pb s x rest (k+1)).length by omega),ab,ew,aL (show k<(Pb s x rest (k+1)).length by omega),ab,aj,aj,g1,g0,Uo hN,aiZ];have eb:mw x (s.getD k eZ)=mw x s[k]:=(by rw[aO s k (by omega)]);unfold IY;rw[eb];cases mw x s[k] with
  |true=>
  simp only[ab,share];rw[aL (show k<_ by rw[bF];omega),ab];have es:List.set (List.set (Pb s x rest (k+1)) (k+1) s[k]) k x=Pb s x rest k:=by rw[em,en];have:=avz (s.take k) (s.drop (k+1)++rest) s[k] x x;rw[hP] at this;exact this
  rw[es];exact acw hN hl k n (by omega) (by omega)
  |false=>rfl
theorem acx {N:Nat} {l:List bn} {kk:List bn->aa} (hN:3<N) (hl:l.length<=1048700) (hlN:l.length<N):∀ (r s:List bn) (n:Nat),s.length+r.length=l.length->r.length<n-> bT N (0:Int) (l.length:Int) n kk (s++r) (s.length:Int)=kk (r.foldl Qk s)
 |[],s,n+1,hs,_=>by simp only[bT];rw[an (show ¬(s.length:Int)<(l.length:Int) by simp at hs;omega)];simp
 |x::r,s,n+1,hs,hn=>by have hm:=aU;simp only[ak] at hs hn;simp only[bT];rw[af (show(s.length:Int)<(l.length:Int) by omega),ab];have e0:s++x::r=Pb s x r s.length:=(by simp[Pb]);rw[e0,acw hN (by omega) s.length N (aM _) (by omega)];have e1:Pb s x r (IY x s s.length)=Qk s x++r:=(by simp[Pb,Qk]);have e2:wrap .i64 ((s.length:Int)+1)=((Qk s x).length:Int):=(by rw[Wl];exact sM (i:=s.length) (m:=l.length) (by omega) (by omega));rw[e1,e2,acx hN hl hlN r (Qk s x) n (by rw[Wl];omega) (by omega)];rfl
theorem ai2 {N:Nat} {n:Nat} {kf:Int->aa} (h:n<256):∃ r,ym N (n:Int) kf=kf r:=by
 unfold ym Gg;rw[il,ae];unfold zD;rw[il,ae];unfold zC;rw[il,ae];unfold zB;have e:wrap .u8 (n:Int)=(n:Int):=by simp[wrap,IntKind.bits,IntKind.signed];omega
 rw[e,aL (m:=ByteArray.size _) (by
  have:ByteArray.size cB=256:=by decide+kernel
  rw[this];exact h),ab]
 exact⟨_,rfl⟩
end Go.Pv.R
namespace Go.Pv.R
open List Int IntKind
theorem Up {N:Nat} {l:List bn} {kf:List bn->aa} (hl:l.length<=12) (hN:20<N):fF N l kf=kf (IZ l):=by
 have hm:=aU;unfold fF;have ew:wrap .u64 (length l:Int)=(l.length:Int):=by simp[wrap,IntKind.bits,IntKind.signed];omega
 rw[ew];obtain⟨r,hr⟩:=ai2 (N:=N) (n:=l.length) (kf:=λ(eV:Int)=>eA N l (0:Int) (length l:Int) eV kf) (by omega);rw[hr];unfold eA;obtain⟨n,rfl⟩:∃ n,N=n+1:=⟨N - 1,by omega⟩;simp only[fq];rw[iD (n:=(length l:Int) - 0),dZ,ab];unfold eU;cases l with
 |nil=>have e:wrap .i64 ((0:Int)+1)=1:=(by decide);rw[e];simp only[bT];rfl
 |cons x r=>have e:wrap .i64 ((0:Int)+1)=(([x]:List bn).length:Int):=(by show wrap .i64 ((0:Int)+1)=((1:Nat):Int);decide);rw[e];have:=acx (N:=n+1) (l:=x::r) (kk:=kf) (by omega) (by omega) (by omega) r [x] (n+1) (by simp;omega) (by simp at hl;omega);simp only[iU] at this;rw[this];rfl
theorem avA {N:Nat} {l:List bn} {kf:List bn->aa} (hl:l.length<=1048576):avk N l kf=kf l:=Mt (af (by simp only[ao];omega))
theorem Ez {N:Nat} {l:List bn} {kf:List Int->aa} (hl:l.length<=maxLen) (hm:∀ x∈l,x.met.length<=maxLen/\x.met.length<N) (hN:l.length<N) (ZD:20<N):rW N l kf=kf (B5 l):=by
 have hx:=aU;unfold rW B5;rw[gR hl hm hN];cases nI:bB l with
 |false=>rfl
 |true=>have h10:l.length<=10:=(by unfold bB at nI;simp only[ai,au] at nI;exact nI.1);have hlen:=Rn l;simp only[az,ae,ab];rw[avA (by omega),Up (by omega) ZD,Uf (by omega) (by omega)];exact ai1 (by omega)
def leM (a b:bn):Prop:=mw b a=false
theorem anc {a b:bn}:leM a b↔ ¬(b.2.2.1>a.2.2.1∨(b.2.2.1=a.2.2.1/\(b.2.2.2.1>a.2.2.2.1∨(b.2.2.2.1=a.2.2.2.1/\b.1<a.1)))):=by unfold leM;rw[←IX,Bool.not_eq_true]
theorem aoV {a b c:bn} (h1:leM a b) (h2:leM b c):leM a c:=by rw[anc] at*;omega
theorem alF {a b:bn} (h:mw a b=true):leM a b:=by rw[anc];rw[IX] at h;omega
theorem alG {a b:bn} (h:a.1≠b.1) (hb:mw a b=false):mw b a=true:=by rw[IX];rw[←Bool.not_eq_true,IX] at hb;omega
theorem ane (x:bn) (s:List bn):∀ k i,IY x s k<=i->i<k->mw x (s.getD i eZ)=true
 |0,i,_,h=>by omega
 |k+1,i,h1,h2=>by
  unfold IY at h1;cases hb:mw x (s.getD k eZ) with
  |true=>
  rw[hb,ab] at h1;rcases wS (wR h2) with h3 |rfl
  ·exact ane x s k i h1 h3
  exact hb
  |false=>rw[hb,ae] at h1;omega
theorem anf (x:bn) (s:List bn):∀ k,0<IY x s k->leM (s.getD (IY x s k - 1) eZ) x
 |0,h=>by simp[IY] at h
 |k+1,h=>by
  unfold IY at h ⊢;cases hb:mw x (s.getD k eZ) with
  |true=>rw[hb,ab] at h;exact anf x s k h
  |false=>exact hb
theorem aoW (s:List bn) (x:bn):(Qk s x).Perm (x::s):=by unfold Qk;refine(List.perm_append_comm.append_right _).trans ?_;rw[bu,dS];exact List.Perm.refl _
theorem aeU:∀ (l s:List bn),(l.foldl Qk s).Perm (l++s)
 |[],s=>List.Perm.refl _
 |x::l,s=>by refine(aeU l (Qk s x)).trans ?_;refine((aoW s x).append_left l).trans ?_;exact List.perm_middle
theorem YA {l:List bn} {x:bn}:x∈IZ l↔x∈l:=by have:=(aeU l []).mem_iff (a:=x);rw[b6] at this;exact this
theorem ai3 {s:List bn} {x:bn} (h:s.Pairwise leM):(Qk s x).Pairwise leM:=by
 have hp:=aax x s s.length;have hlo:=anf x s s.length;have hhi:=ane x s s.length;unfold Qk;generalize IY x s s.length=p at*;have h0:=h;rw[←dS p s,eR] at h;obtain⟨h1,h2,h3⟩:=h;rw[bu,eR];have hb:∀ y∈s.drop p,leM x y:=λy hy=>by obtain⟨j,hj,rfl⟩:=bo.1 hy;rw[aX] at hj;have:=hhi (p+j) (by omega) (by omega);rw[aO _ _ (by omega)] at this;rw[lW];exact alF this
 have ha:∀ y∈s.take p,leM y x:=λy hy=>by
  obtain⟨j,hj,rfl⟩:=bo.1 hy;rw[aH] at hj;have:=hlo (by omega);rw[aO _ _ (by omega)] at this;rw[gw];by_cases hjp:j=p - 1
  ·subst hjp;exact this
  exact aoV (gn.1 h0 j (p - 1) (by omega) (by omega) (by omega)) this
 refine⟨h1,?_,?_⟩
 ·rw[iU,bZ];exact⟨hb,h2⟩
 intro a hA b hB;rw[iU,aS] at hB;rcases hB with rfl |hB
 ·exact ha a hA
 exact h3 a hA b hB
theorem agl (l:List bn):(IZ l).Pairwise leM:=by
 have:∀ (l s:List bn),s.Pairwise leM->(l.foldl Qk s).Pairwise leM:=by
  intro l;induction l with
  |nil=>exact λs h=>h
  |cons x l ih=>exact λs h=>ih _ (ai3 h)
 exact this l [] List.Pairwise.nil
def nV (t:List bn) (id:Int):bn:=t.getD (bK t id).toNat eZ
def ai4 (t:List bn) (a b:Int):ij:=bif bB t&&(decide (bK t a≥0)&&(decide (bK t b≥0)&&(bK t a != bK t b))) then (bif decide ((nV t b).2.2.2.2.1<(nV t a).2.2.2.2.1) then(b,a) else bif (nV t b).2.2.2.2.1==(nV t a).2.2.2.2.1 then(bif mw (nV t b) (nV t a) then(b,a) else(a,b)) else(a,b)) else(0,0)
theorem Z5 {N:Nat} {t:List bn} {a b:Int} {kf:ij->aa} (hl:t.length<=maxLen) (hm:∀ x∈t,x.met.length<=maxLen/\x.met.length<N) (hN:t.length<N):HM N t a b kf=kf (ai4 t a b):=by
 unfold HM ai4;rw[fQ hl hN,fQ hl hN,fS hl hm hN];cases bB t with
 |false=>rfl
 |true=>
  by_cases ha:bK t a≥0
  rotate_left
  ·rw[af (show bK t a<0 by omega),an ha];rfl
  by_cases hb:bK t b≥0
  rotate_left
  ·rw[an (show ¬bK t a<0 by omega),af ha,af (show bK t b<0 by omega),an hb];rfl
  rw[af ha,af hb,an (show ¬bK t a<0 by omega),an (show ¬bK t b<0 by omega),(ta ha).1,(ta hb).1]
  simp only[ab,ae,az,aA,Ka,bne]
  unfold nV
  cases (bK t a==bK t b)
  ·simp only[ae,bC,ab]
   cases decide ((t.getD (bK t b).toNat eZ).2.2.2.2.1<(t.getD (bK t a).toNat eZ).2.2.2.2.1)
   ·simp only[ae]
    cases ((t.getD (bK t b).toNat eZ).2.2.2.2.1==(t.getD (bK t a).toNat eZ).2.2.2.2.1)
    ·rfl
    ·simp only[ab]
     cases mw (t.getD (bK t b).toNat eZ) (t.getD (bK t a).toNat eZ)<;>rfl
   ·rfl
  ·rfl
theorem GV {N:Nat} {l:List Int} {n:Int} {kf:Int->aa} (hl:l.length<=maxLen) (hN:l.length<N):nu N l n kf=kf (uU (λx:Int=>n==x) l):=by unfold nu;rw[Dj hl hN,BX (p:=λx:Int=>n==x) (kf:=λi=>kf (i:Int)) (λi x next=>rfl)];unfold uU;cases x9 (λx:Int=>n==x) l 0<;>rfl
theorem B6 {t:List bn} {a:Int} (ha:bK t a≥0):nV t a∈t/\(nV t a).1=a:=by obtain⟨k,hk,e,h1,_⟩:=fP (p:=λx:bn=>x.1==a) (l:=t) (by unfold bK at ha;omega);have e:bK t a=(k:Int):=e;unfold nV;rw[e,aj,aO _ _ hk];exact⟨aK hk,by simpa using h1⟩
theorem aoX {t:List bn} (ht:allI (xE t) t 0=true) {x:bn} (hx:x∈t) {a:Int} (e:x.1=a):nV t a=x:=by obtain⟨i,hi,rfl⟩:=bo.1 hx;unfold nV;rw[(acg ht hi).2 e.symm,aj,aO _ _ hi]
theorem ang {t:List bn} (ht:allI (xE t) t 0=true) {a:Int} (ha:bK t a≥0):∃ k:Nat,∃ hk:k<(IZ t).length,uU (λx:Int=>a==x) ((IZ t).map λx:bn=>x.1)=(k:Int)/\(IZ t)[k]=nV t a:=by
 obtain⟨h1,h2⟩:=B6 ha;have Io:a∈(IZ t).map λx:bn=>x.1:=cg.2 ⟨nV t a,YA.2 h1,h2⟩;by_cases hn:uU (λx:Int=>a==x) ((IZ t).map λx:bn=>x.1)<0
 ·obtain⟨j,hj,e⟩:=bo.1 Io;have:=(Yp hn).2 j hj;rw[e] at this;simp at this
 obtain⟨k,hk,e,h3,_⟩:=fP hn;rw[aY] at hk;refine⟨k,hk,e,?_⟩;rw[qm,bP] at h3;exact(aoX ht (YA.1 (aK hk)) h3.symm).symm
theorem avB {t:List bn} (ht:allI (xE t) t 0=true) {a b:Int} (ha:bK t a≥0) (hb:bK t b≥0) (hab:a≠b):decide (uU (λx:Int=>a==x) ((IZ t).map λx:bn=>x.1)<uU (λx:Int=>b==x) ((IZ t).map λx:bn=>x.1))=!mw (nV t b) (nV t a):=by
 obtain⟨i,hi,e1,h1⟩:=ang ht ha;obtain⟨j,hj,e2,h2⟩:=ang ht hb;have hs:=gn.1 (agl t);rw[e1,e2];rcases Nat.lt_trichotomy i j with h |h |h
 ·have:=hs i j hi hj h;rw[h1,h2] at this;unfold leM at this;rw[this,dZ];rfl
 ·subst h;have:nV t a=nV t b:=by rw[←h1,←h2]
  exact absurd (by rw[←(B6 ha).2,←(B6 hb).2,this]) hab
 have:=hs j i hj hi h;rw[h1,h2] at this;unfold leM at this;have h3:=alG (a:=nV t a) (b:=nV t b) (by rw[(B6 ha).2,(B6 hb).2];exact hab) this;rw[h3,il];rfl
theorem Z6 {N:Nat} {t:List bn} {a b:Int} {kf:ij->aa} (hl:t.length<=maxLen) (hm:∀ x∈t,x.met.length<=maxLen/\x.met.length<N) (hN:t.length<N) (ZD:20<N):HV N t a b kf=kf (ai4 t a b):=by
 have hx:=aU;unfold HV ai4;rw[fR hl hN,fR hl hN,gR hl hm hN];cases nI:bB t with
 |false=>rfl
 |true=>
  have YB:=nI
  unfold bB at YB
  simp only[ai,au] at YB
  obtain⟨h10,ht,_⟩:=YB
  by_cases ha:bK t a≥0
  rotate_left
  ·rw[af (show bK t a<0 by omega),an ha];rfl
  by_cases hb:bK t b≥0
  rotate_left
  ·rw[an (show ¬bK t a<0 by omega),af ha,af (show bK t b<0 by omega),an hb];rfl
  rw[af ha,af hb,an (show ¬bK t a<0 by omega),an (show ¬bK t b<0 by omega),(ta ha).1,(ta hb).1,Ez hl hm hN ZD]
  have hlen:=Rn t
  have fZ:B5 t=(IZ t).map λx:bn=>x.1:=by unfold B5;rw[nI];rfl
  have ZS:(B5 t).length=t.length:=by rw[fZ,aY,hlen]
  rw[GV (by omega) (by omega)]
  simp only[GV (N:=N) (l:=B5 t) (by omega) (by omega)]
  by_cases hab:a=b
  ·subst hab;simp
  ·have wj:bK t a≠bK t b:=λe=>hab (by rw[←(B6 ha).2,←(B6 hb).2];unfold nV;rw[e])
   have e1:(bK t a==bK t b)=false:=by simpa using wj
   simp only[ab,ae,az,aA,bne,e1,bC]
   rw[fZ,avB ht ha hb hab]
   show(bif decide ((nV t a).2.2.2.2.1<(nV t b).2.2.2.2.1) then kf (a,b) else bif (nV t a).2.2.2.2.1==(nV t b).2.2.2.2.1 then(bif !mw (nV t b) (nV t a) then kf (a,b) else kf (b,a)) else kf (b,a))=_
   rcases ux (nV t a).2.2.2.2.1 (nV t b).2.2.2.2.1 with h |h |h
   ·rw[af h,il,ab,ae]
    have:((nV t b).2.2.2.2.1==(nV t a).2.2.2.2.1)=false:=by simp;omega
    rw[this];rfl
   ·rw[h,an (zG _),ae,gh,ab,ab,ae]
    cases mw (nV t b) (nV t a)<;>rfl
   ·rw[il,af h,ab,ae]
    have:((nV t a).2.2.2.2.1==(nV t b).2.2.2.2.1)=false:=by simp;omega
    rw[this];rfl
theorem Ql {N:Nat} {a b:List Int} {kf:List Int->aa} (ha:a.length<=1048700) (hb:b.length<=1048700) (hN:2<N):mh N [a,b] kf=kf (a++b):=by
 have hm:=aU;unfold mh;rw[BV (by simp;omega) (by simpa using hN)];simp only[dU];rw[iD (n:=(0:Int)+(length a:Int)),il,ae,iD (n:=(0:Int)+(length a:Int)+(length b:Int)),il,ae];unfold avd;have e:(List.isEmpty ([]:List Int)&&(decide ((0:Int)<=0+(length a:Int)+(length b:Int))&&decide (0+(length a:Int)+(length b:Int)<=(549755813888:Int))))=true:=by rw[dZ,dZ];rfl
 rw[e,ab];show eP [a,b] (length [a,b]:Int) N kf [] 0=_;rw[Al (by simp;omega) (by simpa using hN)];simp only[dU];rw[af (by simp;omega),ab,af (by simp;omega),ab];rfl
end Go.Pv.R
namespace Go.Pv.R
open List Int IntKind
def Kb (L:List Int) (i:Nat):List Int:=List.drop 1 (List.take i L)++List.drop (i+1) L
theorem My {L:List Int} {i:Nat} (h1:1<=i) (h:i<L.length):(Kb L i).length=L.length - 2:=by simp[Kb];omega
def Ox (t:List bn) (f:List Int->Option (List ij)) (L:List Int):Nat->Nat->Option (List ij)
 |0,_=>none
 |k+1,i=>bif kD t (L.getD 0 0) (L.getD i 0) then
   (match f (Kb L i) with
    |some r=>some (ai4 t (L.getD 0 0) (L.getD i 0)::r)
    |none=>Ox t f L k (i+1))
  else Ox t f L k (i+1)
def Mz (t:List bn):Nat->List Int->Option (List ij)
 |0,_=>none
 |n+1,L=>bif decide (L.length=0) then some [] else Ox t (Mz t n) L (L.length - 1) 1
def Z7 {α β:Type} (o:Option (List α)) (k:List α->Bool->β):β:=match o with |some r=>k r true |none=>k [] false
theorem YC {t:List bn} {f:List Int->Option (List ij)} {L:List Int} (hf:∀ (L':List Int) r,f L'=some r->2*r.length=L'.length):∀ (k i:Nat) r,1<=i->i+k=L.length->Ox t f L k i=some r->2*r.length=L.length
 |0,i,r,h0,h,e=>by simp[Ox] at e
 |k+1,i,r,h0,h,e=>by
  unfold Ox at e;cases hm:kD t (L.getD 0 0) (L.getD i 0) with
  |false=>rw[hm,ae] at e;exact YC hf k (i+1) r (by omega) (by omega) e
  |true=>
  rw[hm,ab] at e;cases hr:f (Kb L i) with
  |none=>rw[hr] at e;exact YC hf k (i+1) r (by omega) (by omega) e
  |some r'=>rw[hr] at e;injection e with e;subst e;have h1:=hf _ _ hr;rw[My h0 (by omega)] at h1;simp only[ak];omega
theorem Ro {t:List bn}:∀ (n:Nat) (L:List Int) r,Mz t n L=some r->2*r.length=L.length
 |0,L,r,e=>by simp[Mz] at e
 |n+1,L,r,e=>by
  unfold Mz at e;by_cases h:L.length=0
  ·rw[af h,ab] at e;injection e with e;subst e;simp[h]
  rw[an h,ae] at e;exact YC (λL' r' e'=>Ro n L' r' e') (L.length - 1) 1 r (by omega) (by omega) e
theorem ai5 {L:List Int} {i:Nat} (h1:1<=i) (h:i<L.length):(decide ((0:Int)<=(1:Int))&&decide ((1:Int)<=(i:Int))&&decide ((i:Int)<=(length L:Int)))=true/\(decide ((0:Int)<=((i+1:Nat):Int))&&decide (((i+1:Nat):Int)<=(length L:Int))&&decide ((length L:Int)<=(length L:Int)))=true:=by
 constructor
 ·rw[dZ,dZ,dZ];rfl
 rw[dZ,dZ,dZ];rfl
theorem acy {N B:Nat} {self:List bn->List Int->(List ij->Bool->aa)->aa} {t:List bn} {f:List Int->Option (List ij)} {L:List Int} {k0:aa} {kf:List ij->Bool->aa}
  (hl:t.length<=maxLen) (hm:∀ x∈t,x.met.length<=maxLen/\x.met.length<N) (hN:t.length<N) (ZD:20<N) (hL:L.length<=1000)
  (hs:∀ (i:Nat) k,1<=i->i<L.length->self t (Kb L i) k=Z7 (f (Kb L i)) k) (XZ:∀ (L':List Int) r,f L'=some r->2*r.length=L'.length):∀ (k i n:Nat),1<=i->i+k=L.length->k<n->
  ND N self t L n k0 kf (i:Int)=match Ox t f L k i with |some r=>kf r true |none=>k0
 |0,i,n+1,h1,h,hn=>by
  simp only[ND]
  rw[il]
  rfl
 |k+1,i,n+1,h1,h,hn=>by
  have hx:=aU
  have ih:=acy (k0:=k0) (kf:=kf) (B:=B) hl hm hN ZD hL hs XZ k (i+1) n (by omega) (by omega) (by omega)
  obtain⟨d1,d2⟩:=ai5 (L:=L) h1 (by omega)
  have ew:wrap .i64 ((i:Int)+1)=((i+1:Nat):Int):=sM (m:=L.length) (i:=i) (by omega) (by omega)
  simp only[ND]
  rw[dZ,ab,show bp (0:Int) (length L)=true from aL (i:=0) (show 0<L.length by omega),ab,aL (show i<L.length by omega),ab,Ot hl hm hN]
  unfold Ox
  show(bif !kD t (L.getD 0 0) (L.getD i 0) then _ else _)=_
  cases kD t (L.getD 0 0) (L.getD i 0) with
  |false=>
   simp only[bC,ab,ae]
   rw[ew]
   exact ih
  |true=>
   simp only[az,ab,ae]
   rw[d1,ab,ew,d2,ab]
   have e3:(([]:List Int)++List.drop (toNat (1:Int)) (List.take (toNat (i:Int)) L))++List.drop (toNat ((i+1:Nat):Int)) (List.take (toNat (length L:Int)) L)=Kb L i:=by
    rw[aj,aj,aj,km];rfl
   rw[e3]
   rw[af (by simp;omega),ab,af (by simp;omega),ab,hs i _ h1 (by omega)]
   unfold Z7
   cases hr:f (Kb L i) with
   |none=>exact ih
   |some r=>
    have h2:=XZ _ _ hr
    rw[My h1 (by omega)] at h2
    simp only[ab]
    rw[Z5 hl hm hN,af (by simp;omega),ab]
    rfl
theorem anh {t:List bn} {B:Nat} (hl:t.length<=maxLen) (hm:∀ x∈t,x.met.length<=maxLen/\x.met.length<B) (hB:t.length<B) (ZD:20<B):∀ (n N:Nat) (L:List Int) (kf:List ij->Bool->aa),L.length<=n->L.length<B->L.length<=1000->B+n+1<=N->akW N t L kf=Z7 (Mz t (n+1) L) kf
 |n,0,L,kf,_,_,_,h=>by omega
 |n,N+1,L,kf,h1,h2,h3,h=>by
  show akV (akW N) N t L kf=_;unfold akV Mz;by_cases h0:L.length=0
  ·rw[af h0,ab];have:((length L:Int)==0)=true:=(by simp[h0]);rw[this];rfl
  rw[an h0,ae];have:((length L:Int)==0)=false:=(by simp;intro e;exact h0 (by simp[e]));rw[this,ae];obtain⟨n,rfl⟩:∃ m,n=m+1:=⟨n - 1,by omega⟩;have:=acy (N:=N) (B:=B) (self:=akW N) (t:=t) (f:=Mz t (n+1)) (L:=L) (k0:=kf [] false) (kf:=kf) hl (λx hx=>⟨(hm x hx).1,by have:=(hm x hx).2;omega⟩) (by omega) (by omega) h3 (λi k hi1 Ba=>by
   have hr:=My hi1 Ba
   exact anh hl hm hB ZD n N (Kb L i) k (by omega) (by omega) (by omega) (by omega)) (λL' r e=>Ro (n+1) L' r e) (L.length - 1) 1 N (by omega) (by omega) (by omega)
  refine kC this ?_;unfold Z7;cases Ox t (Mz t (n+1)) L (L.length - 1) 1<;>rfl
theorem acz {N B:Nat} {self:List bn->List Int->(List ij->Bool->aa)->aa} {t:List bn} {f:List Int->Option (List ij)} {L:List Int} {k0:aa} {kf:List ij->Bool->aa}
  (hl:t.length<=maxLen) (hm:∀ x∈t,x.met.length<=maxLen/\x.met.length<N) (hN:t.length<N) (ZD:20<N) (hL:L.length<=1000)
  (hs:∀ (i:Nat) k,1<=i->i<L.length->self t (Kb L i) k=Z7 (f (Kb L i)) k) (XZ:∀ (L':List Int) r,f L'=some r->2*r.length=L'.length):∀ (k i n:Nat),1<=i->i+k=L.length->k<n->
  NT N self t L n k0 kf (i:Int)=match Ox t f L k i with |some r=>kf r true |none=>k0
 |0,i,n+1,h1,h,hn=>by
  simp only[NT]
  rw[il]
  rfl
 |k+1,i,n+1,h1,h,hn=>by
  have hx:=aU
  have ih:=acz (k0:=k0) (kf:=kf) (B:=B) hl hm hN ZD hL hs XZ k (i+1) n (by omega) (by omega) (by omega)
  obtain⟨d1,d2⟩:=ai5 (L:=L) h1 (by omega)
  have ew:wrap .i64 ((i:Int)+1)=((i+1:Nat):Int):=sM (m:=L.length) (i:=i) (by omega) (by omega)
  simp only[NT]
  rw[dZ,ab,show bp (0:Int) (length L)=true from aL (i:=0) (show 0<L.length by omega),ab,aL (show i<L.length by omega),ab,Ou hl hm hN]
  unfold Ox
  show(bif !kD t (L.getD 0 0) (L.getD i 0) then _ else _)=_
  cases kD t (L.getD 0 0) (L.getD i 0) with
  |false=>
   simp only[bC,ab,ae]
   rw[ew]
   exact ih
  |true=>
   simp only[az,ab,ae]
   rw[d1,ab,ew,d2,ab]
   have e3:List.drop (toNat (1:Int)) (List.take (toNat (i:Int)) L)++List.drop (toNat ((i+1:Nat):Int)) (List.take (toNat (length L:Int)) L)=Kb L i:=by
    rw[aj,aj,aj,km];rfl
   rw[Ql (by simp;omega) (by simp;omega) (by omega),e3,hs i _ h1 (by omega)]
   unfold Z7
   cases hr:f (Kb L i) with
   |none=>exact ih
   |some r=>
    have h2:=XZ _ _ hr
    rw[My h1 (by omega)] at h2
    simp only[ab]
    rw[Z6 hl hm hN ZD,af (by simp;omega),ab]
    rfl
theorem ani {t:List bn} {B:Nat} (hl:t.length<=maxLen) (hm:∀ x∈t,x.met.length<=maxLen/\x.met.length<B) (hB:t.length<B) (ZD:20<B):∀ (n N:Nat) (L:List Int) (kf:List ij->Bool->aa),L.length<=n->L.length<B->L.length<=1000->B+n+1<=N->alg N t L kf=Z7 (Mz t (n+1) L) kf
 |n,0,L,kf,_,_,_,h=>by omega
 |n,N+1,L,kf,h1,h2,h3,h=>by
  show alf (alg N) N t L kf=_;unfold alf Mz;by_cases h0:L.length=0
  ·rw[af h0,ab];have:((length L:Int)==0)=true:=(by simp[h0]);rw[this];rfl
  rw[an h0,ae];have:((length L:Int)==0)=false:=(by simp;intro e;exact h0 (by simp[e]));rw[this,ae];obtain⟨n,rfl⟩:∃ m,n=m+1:=⟨n - 1,by omega⟩;have:=acz (N:=N) (B:=B) (self:=alg N) (t:=t) (f:=Mz t (n+1)) (L:=L) (k0:=kf [] false) (kf:=kf) hl (λx hx=>⟨(hm x hx).1,by have:=(hm x hx).2;omega⟩) (by omega) (by omega) h3 (λi k hi1 Ba=>by
   have hr:=My hi1 Ba
   exact ani hl hm hB ZD n N (Kb L i) k (by omega) (by omega) (by omega) (by omega)) (λL' r e=>Ro (n+1) L' r e) (L.length - 1) 1 N (by omega) (by omega) (by omega)
  refine kC this ?_;unfold Z7;cases Ox t (Mz t (n+1)) L (L.length - 1) 1<;>rfl
def Gs (t:List bn):Option (List ij):=bif bB t then bif decide (t.length%2=1) then none else Mz t (t.length+1) (B5 t) else none
theorem N4 {t:List bn} (h:bB t=true):(B5 t).length=t.length:=by unfold B5;rw[h,ab,aY,Rn]
theorem acA {t:List bn} {r:List ij} (h:Gs t=some r):2*r.length=t.length/\t.length<=10:=by
 unfold Gs at h;cases nI:bB t with
 |false=>rw[nI] at h;simp at h
 |true=>
 have YB:=nI;unfold bB at YB;simp only[ai,au] at YB;rw[nI,ab] at h;by_cases ho:t.length%2=1
 ·rw[af ho] at h;simp at h
 rw[an ho,ae] at h;have:=Ro _ _ _ h;rw[N4 nI] at this;exact⟨this,YB.1⟩
theorem axF (n:Nat):(Int.tmod (n:Int) 2==1)=decide (n%2=1):=by
 have:Int.tmod (n:Int) 2=((n%2:Nat):Int):=by rw[eh (by omega)];omega
 rw[this];by_cases h:n%2=1
 ·rw[h];rfl
 rw[an h];simp;omega
theorem Wn {N:Nat} {t:List bn} {kf:List ij->Bool->aa} (hl:t.length<=maxLen) (hm:∀ x∈t,x.met.length<=maxLen/\x.met.length+20<N) (hN:t.length+20<N) (h60:60<N):Bs N t kf=Z7 (Gs t) kf:=by
 have hx:=aU;unfold Bs Gs;rw[fS hl (λx hx=>⟨(hm x hx).1,by have:=(hm x hx).2;omega⟩) (by omega)];cases nI:bB t with
 |false=>rfl
 |true=>
 have YB:=nI;unfold bB at YB;simp only[ai,au] at YB;rw[axF];by_cases ho:t.length%2=1
 ·rw[af ho];rfl
 rw[an ho];simp only[az,ab,ae];rw[Mw hl (λx hx=>⟨(hm x hx).1,by have:=(hm x hx).2;omega⟩) (by omega)];have hs:=N4 nI;exact anh (B:=N - 15) hl (λx hx=>⟨(hm x hx).1,by have:=(hm x hx).2;omega⟩) (by omega) (by omega) t.length N _ _ (by omega) (by omega) (by omega) (by omega)
theorem Wo {N:Nat} {t:List bn} {kf:List ij->Bool->aa} (hl:t.length<=maxLen) (hm:∀ x∈t,x.met.length<=maxLen/\x.met.length+20<N) (hN:t.length+20<N) (h60:60<N):BN N t kf=Z7 (Gs t) kf:=by
 have hx:=aU;unfold BN Gs;rw[gR hl (λx hx=>⟨(hm x hx).1,by have:=(hm x hx).2;omega⟩) (by omega)];cases nI:bB t with
 |false=>rfl
 |true=>
 have YB:=nI;unfold bB at YB;simp only[ai,au] at YB;rw[axF];by_cases ho:t.length%2=1
 ·rw[af ho];rfl
 rw[an ho];simp only[az,ab,ae];rw[Ez hl (λx hx=>⟨(hm x hx).1,by have:=(hm x hx).2;omega⟩) (by omega) (by omega)];have hs:=N4 nI;exact ani (B:=N - 15) hl (λx hx=>⟨(hm x hx).1,by have:=(hm x hx).2;omega⟩) (by omega) (by omega) t.length N _ _ (by omega) (by omega) (by omega) (by omega)
end Go.Pv.R
namespace Go.Pv.R
open List Int IntKind
def Qm (t:List bn) (js:List c8) (p:ij) (used:List Int) (f:List Int->Option aq):Nat->Nat->Option aq
 |0,_=>none
 |k+1,i=>bif BY used (js.getD i jy).1 then Qm t js p used f k (i+1) else
   bif mI t (js.getD i jy) p then
   (match f (used++[(js.getD i jy).1]) with
    |some r=>some ((js.getD i jy).1::r)
    |none=>Qm t js p used f k (i+1))
  else Qm t js p used f k (i+1)
def Oy (t:List bn) (js:List c8):List ij->List Int->Option aq
 |[],_=>some []
 |p::ps,used=>Qm t js p used (Oy t js ps) js.length 0
def azN {α β:Type} (o:Option (List α)) (k0:β) (k:List α->Bool->β):β:=match o with |some r=>k r true |none=>k0
theorem anj {α β:Type} (o:Option (List α)) (k:List α->Bool->β):azN o (k [] false) k=Z7 o k:=by cases o<;>rfl
def alH (js:List c8) (n:Nat) (used r:List Int):Prop:=r.length=n/\r.Nodup/\∀ x∈r,x∈js.map (λx:c8=>x.1)/\x∉used
theorem Rp {t:List bn} {js:List c8} {p:ij} {used:List Int} {f:List Int->Option aq } {n:Nat} (hf:∀ u r,f u=some r->alH js n u r):∀ (k i:Nat) r,i+k=js.length->Qm t js p used f k i=some r->alH js (n+1) used r
 |0,i,r,h,e=>by simp[Qm] at e
 |k+1,i,r,h,e=>by
  unfold Qm at e;cases hu:BY used (js.getD i jy).1 with
  |true=>rw[hu,ab] at e;exact Rp hf k (i+1) r (by omega) e
  |false=>
  rw[hu,ae] at e;cases hm:mI t (js.getD i jy) p with
  |false=>rw[hm,ae] at e;exact Rp hf k (i+1) r (by omega) e
  |true=>
  rw[hm,ab] at e;cases hr:f (used++[(js.getD i jy).1]) with
  |none=>rw[hr] at e;exact Rp hf k (i+1) r (by omega) e
  |some r'=>
  rw[hr] at e;injection e with e;subst e;obtain⟨h1,h2,h3⟩:=hf _ _ hr;have lT:(js.getD i jy).1∈js.map (λx:c8=>x.1):=(by rw[aO _ _ (show i<js.length by omega)];exact cg.2 ⟨_,aK _,rfl⟩);have hnu:(js.getD i jy).1∉used:=λhc=>(by have:=BZ.2 hc;rw[hu] at this;cases this);refine⟨by simp[h1],ek.2 ⟨λhc=>?_,h2⟩,λx hx=>?_⟩
  ·have:=(h3 _ hc).2;simp at this
  rcases aS.1 hx with rfl |hx
  ·exact⟨lT,hnu⟩
  obtain⟨q1,q2⟩:=h3 x hx;refine⟨q1,λhc=>q2 ?_⟩;simp[hc]
theorem Qn {t:List bn} {js:List c8}:∀ (ps:List ij) (used r:List Int),Oy t js ps used=some r->alH js ps.length used r
 |[],used,r,e=>by unfold Oy at e;injection e with e;subst e;exact⟨rfl,gu,λx hx=>by simp at hx⟩
 |p::ps,used,r,e=>Rp (λu r e=>Qn ps u r e) js.length 0 r (by omega) e
theorem MA:∀ (r L:List Int),r.Nodup->(∀ x∈r,x∈L)->r.length<=L.length
 |[],L,_,_=>by simp
 |x::r,L,hn,h=>by rw[ek] at hn;have hx:=h x (by simp);have h1:=List.length_erase_of_mem hx;have h2:=List.length_pos_of_mem hx;have:=MA r (L.erase x) hn.2 λy hy=>(by have wj:y≠x:=λe=>hn.1 (e▸hy);exact(List.mem_erase_of_ne wj).2 (h y (by simp[hy])));simp only[ak];omega
theorem asN {t:List bn} {js:List c8} {ps:List ij} {used r:List Int} (h:Oy t js ps used=some r):ps.length<=js.length:=by obtain⟨h1,h2,h3⟩:=Qn ps used r h;have:=MA r (js.map λx:c8=>x.1) h2 λx hx=>(h3 x hx).1;rw[aY] at this;omega
theorem ank {p:ij} {ps:List ij}:(decide ((0:Int)<=(1:Int))&&decide ((1:Int)<=(length (p::ps):Int))&&decide ((length (p::ps):Int)<=(length (p::ps):Int)))=true/\List.drop (toNat (1:Int)) (List.take (toNat (length (p::ps):Int)) (p::ps))=ps:=by
 constructor
 ·rw[dZ,af (by simp only[ak];omega),dZ];rfl
 rw[aj,km];rfl
theorem acB {N:Nat} {self:List bn->List c8->List ij->List Int->(List Int->Bool->aa)->aa} {t:List bn} {js:List c8} {p:ij} {ps:List ij} {used:List Int} {f:List Int->Option aq } {k0:aa} {kf:List Int->Bool->aa} (hl:t.length<=maxLen) (hN:t.length<N) (ZD:20<N) (hj:js.length<=1048700) (Wp:∀ x∈js,x.2.2.length<=maxLen/\x.2.2.length<N) (hu:used.length<=1000) (huN:used.length<N) (hs:∀ (x:Int) k,self t js ps (used++[x]) k=Z7 (f (used++[x])) k) (XZ:∀ (u:List Int) r,f u=some r->r.length<=1000):∀ (k i n:Nat),i+k=js.length->k<n-> JZ N self t js (p::ps) used n k0 kf (i:Int)=azN (Qm t js p used f k i) k0 kf
 |0,i,n+1,h,hn=>by simp only[JZ];rw[il];rfl
 |k+1,i,n+1,h,hn=>by
  have hx:=aU;have ih:=acB (k0:=k0) (kf:=kf) (p:=p) hl hN ZD hj Wp hu huN hs XZ k (i+1) n (by omega) (by omega);have ew:wrap .i64 ((i:Int)+1)=((i+1:Nat):Int):=sM (m:=js.length) (i:=i) (by omega) (by omega);obtain⟨d1,d2⟩:=ank (p:=p) (ps:=ps);have hi:i<js.length:=(by omega);obtain⟨m1,m2⟩:=Wp js[i] (aK hi);simp only[JZ];rw[dZ,ab,aL hi,ab,pI (by omega) huN];unfold Qm;have eg:js.getD (toNat (i:Int)) jy=js[i]:=aO _ _ hi _;have eg2:js.getD i jy=js[i]:=aO _ _ hi _;rw[eg,eg2];cases BY used js[i].1 with
  |true=>simp only[ab];rw[ew];exact ih
  |false=>
  simp only[ae];rw[ab,show bp (0:Int) (length (p::ps))=true from aL (i:=0) (by simp),ab,Es hl hN m1 m2];show(bif !mI t js[i] p then _ else _)=_;cases mI t js[i] p with
  |false=>simp only[bC,ab,ae];rw[ew];exact ih
  |true=>
  simp only[az,ab,ae];rw[d1,ab,d2,af (by simp;omega),ab,af (by simp;omega),ab,bU,hs,ew];unfold Z7;cases hr:f (used++[js[i].1]) with
  |none=>exact ih
  |some r=>have:=XZ _ _ hr;simp only[ab];rw[af (by simp;omega),ab];rfl
theorem acC {N:Nat} {self:List bn->List c8->List ij->List Int->(List Int->Bool->aa)->aa} {t:List bn} {js:List c8} {p:ij} {ps:List ij} {used:List Int} {f:List Int->Option aq } {k0:aa} {kf:List Int->Bool->aa} (hl:t.length<=maxLen) (hN:t.length<N) (ZD:20<N) (hj:js.length<=1048700) (Wp:∀ x∈js,x.2.2.length<=maxLen/\x.2.2.length<N) (hu:used.length<=1000) (huN:used.length<N) (hs:∀ (x:Int) k,self t js ps (used++[x]) k=Z7 (f (used++[x])) k) (XZ:∀ (u:List Int) r,f u=some r->r.length<=1000):∀ (k i n:Nat),i+k=js.length->k<n-> J2 N self t js (p::ps) used js (js.length:Int) n k0 kf (i:Int)=azN (Qm t js p used f k i) k0 kf
 |0,i,n+1,h,hn=>by simp only[J2];rw[il];rfl
 |k+1,i,n+1,h,hn=>by
  have hx:=aU;have ih:=acC (k0:=k0) (kf:=kf) (p:=p) hl hN ZD hj Wp hu huN hs XZ k (i+1) n (by omega) (by omega);have ew:wrap .i64 ((i:Int)+1)=((i+1:Nat):Int):=sM (m:=js.length) (i:=i) (by omega) (by omega);obtain⟨d1,d2⟩:=ank (p:=p) (ps:=ps);have hi:i<js.length:=(by omega);obtain⟨m1,m2⟩:=Wp js[i] (aK hi);simp only[J2];rw[dZ,ab,aL hi,ab,py (by omega) huN];unfold Qm;have eg:js.getD (toNat (i:Int)) jy=js[i]:=aO _ _ hi _;have eg2:js.getD i jy=js[i]:=aO _ _ hi _;rw[eg,eg2];cases BY used js[i].1 with
  |true=>simp only[ab];rw[ew];exact ih
  |false=>
  simp only[ae];rw[show bp (0:Int) (length (p::ps))=true from aL (i:=0) (by simp),ab,Et hl hN m1 m2 (by omega)];show(bif !mI t js[i] p then _ else _)=_;cases mI t js[i] p with
  |false=>simp only[bC,ab,ae];rw[ew];exact ih
  |true=>
  simp only[az,ab,ae];rw[d1,ab,d2,agj (by omega),af (by simp;omega),ab,hs,ew];unfold Z7;cases hr:f (used++[js[i].1]) with
  |none=>exact ih
  |some r=>have:=XZ _ _ hr;simp only[ab];rw[af (by simp;omega),ab];rfl
theorem anl {t:List bn} {js:List c8} {B:Nat} (hl:t.length<=maxLen) (hN:t.length<B) (ZD:20<B) (hj:js.length<=1048700) (hjN:js.length<B) (Wp:∀ x∈js,x.2.2.length<=maxLen/\x.2.2.length<B):∀ (ps:List ij) (N:Nat) (used:List Int) (kf:List Int->Bool->aa),used.length+ps.length<=900->used.length+ps.length<B->B+ps.length+1<=N->akY N t js ps used kf=Z7 (Oy t js ps used) kf
 |ps,0,used,kf,_,_,h=>by omega
 |[],N+1,used,kf,_,_,_=>rfl
 |p::ps,N+1,used,kf,h1,h2,h=>by
  simp only[ak] at h h1 h2;show akX (akY N) N t js (p::ps) used kf=_;unfold akX Oy;have e:((length (p::ps):Int)==0)=false:=by simp;omega
  rw[e,ae,←anj];exact acB (N:=N) (self:=akY N) (f:=Oy t js ps) hl (by omega) (by omega) hj (λx hx=>⟨(Wp x hx).1,by have:=(Wp x hx).2;omega⟩) (by omega) (by omega) (λx k=>anl hl hN ZD hj hjN Wp ps N _ k (by simp;omega) (by simp;omega) (by omega)) (λu r e=>by have:=(Qn ps u r e).1;omega) js.length 0 N (by omega) (by omega)
theorem anm {t:List bn} {js:List c8} {B:Nat} (hl:t.length<=maxLen) (hN:t.length<B) (ZD:20<B) (hj:js.length<=1048700) (hjN:js.length<B) (Wp:∀ x∈js,x.2.2.length<=maxLen/\x.2.2.length<B):∀ (ps:List ij) (N:Nat) (used:List Int) (kf:List Int->Bool->aa),used.length+ps.length<=900->used.length+ps.length<B->B+ps.length+1<=N->ali N t js ps used kf=Z7 (Oy t js ps used) kf
 |ps,0,used,kf,_,_,h=>by omega
 |[],N+1,used,kf,_,_,_=>rfl
 |p::ps,N+1,used,kf,h1,h2,h=>by
  simp only[ak] at h h1 h2;show alh (ali N) N t js (p::ps) used kf=_;unfold alh Oy;have e:((length (p::ps):Int)==0)=false:=by simp;omega
  rw[e,ae,←anj];exact acC (N:=N) (self:=ali N) (f:=Oy t js ps) hl (by omega) (by omega) hj (λx hx=>⟨(Wp x hx).1,by have:=(Wp x hx).2;omega⟩) (by omega) (by omega) (λx k=>anm hl hN ZD hj hjN Wp ps N _ k (by simp;omega) (by simp;omega) (by omega)) (λu r e=>by have:=(Qn ps u r e).1;omega) js.length 0 N (by omega) (by omega)
def B7 (t:List bn) (js:List c8) (ps:List ij):Option aq:=bif fm js&&bB t then Oy t js ps [] else none
theorem I0 {N:Nat} {t:List bn} {js:List c8} {ps:List ij} {kf:List Int->Bool->aa} (hl:t.length<=maxLen) (hm:∀ x∈t,x.met.length<=maxLen/\x.met.length+20<N) (hN:t.length+20<N) (h60:60<N) (hj:js.length<=1048700) (hjN:js.length+20<N) (Wp:∀ x∈js,x.2.2.length<=maxLen/\x.2.2.length+20<N) (hp:ps.length<=10):yW N t js ps kf=Z7 (B7 t js ps) kf:=by
 have hx:=aU;unfold yW B7;rw[B0 (by omega) (λx hx=>⟨(Wp x hx).1,by have:=(Wp x hx).2;omega⟩) (by omega)];cases fm js with
 |false=>rfl
 |true=>
 simp only[az,ae,aA];rw[fS hl (λx hx=>⟨(hm x hx).1,by have:=(hm x hx).2;omega⟩) (by omega)];cases bB t with
 |false=>rfl
 |true=>exact anl (B:=N - 15) hl (by omega) (by omega) hj (by omega) (λx hx=>⟨(Wp x hx).1,by have:=(Wp x hx).2;omega⟩) ps N [] kf (by simp;omega) (by simp;omega) (by omega)
theorem I1 {N:Nat} {t:List bn} {js:List c8} {ps:List ij} {kf:List Int->Bool->aa} (hl:t.length<=maxLen) (hm:∀ x∈t,x.met.length<=maxLen/\x.met.length+20<N) (hN:t.length+20<N) (h60:60<N) (hj:js.length<=1048700) (hjN:js.length+20<N) (Wp:∀ x∈js,x.2.2.length<=maxLen/\x.2.2.length+20<N) (hp:ps.length<=10):y9 N t js ps kf=Z7 (B7 t js ps) kf:=by
 have hx:=aU;unfold y9 B7;rw[B2 (by omega) (λx hx=>⟨(Wp x hx).1,by have:=(Wp x hx).2;omega⟩) (by omega)];cases fm js with
 |false=>rfl
 |true=>
 simp only[az,ae,aA];rw[gR hl (λx hx=>⟨(hm x hx).1,by have:=(hm x hx).2;omega⟩) (by omega)];cases bB t with
 |false=>rfl
 |true=>
 simp only[az,ae,ab];by_cases hgt:ps.length>js.length
 ·rw[dZ,ab];cases hs:Oy t js ps [] with
  |none=>rfl
  |some r=>have:=asN hs;omega
 rw[il,ae];exact anm (B:=N - 15) hl (by omega) (by omega) hj (by omega) (λx hx=>⟨(Wp x hx).1,by have:=(Wp x hx).2;omega⟩) ps N [] kf (by simp;omega) (by simp;omega) (by omega)
def ai6 (c:bE) (ps:List ij) (ss:List Int):bE:=(c.1,(c.2.1,(ps,(ss,(List.replicate ps.length ((0:Int),((0:Int),(0:Int))),c.2.2.2.2.2)))))
def Kc (c:bE):Bool:=decide (c.2.2.1.length=0)&&decide (0<c.1.length)
def pS (c:bE):bE×Bool:=match Gs c.1 with
 |none=>(c,false)
 |some ps=>match B7 c.1 c.2.1 ps with
  |none=>(c,false)
  |some ss=>bif Kc c then(xF c (ai6 c ps ss) 3 0,tM c (ai6 c ps ss) 3 0) else(c,false)
theorem ai7 {c:bE} {N:Nat} {ps:List ij} {ss:List Int} (h:cS c N) (hp:ps.length<=10) (hs:ss.length<=10) (hN:60<N):cS (ai6 c ps ss) N:=
 ⟨h.tl,h.tm,h.tN,h.jl,h.jm,h.jN,by show ps.length<=_;omega,by show 2*ps.length<_;omega,by show ss.length<=_;omega,by show ss.length<_;omega,by show(List.replicate _ _).length<=_;rw[dz];omega,by show(List.replicate _ _).length<_;rw[dz];omega,h.ml,h.mN,h.n8,h.tb,h.tmb,h.jb,h.jmb⟩
theorem acD {t:List bn} {js:List c8} {ps:List ij} {ss:List Int} (h:B7 t js ps=some ss):ss.length=ps.length:=by
 unfold B7 at h;cases hb:(fm js&&bB t) with
 |false=>rw[hb] at h;simp at h
 |true=>rw[hb,ab] at h;exact(Qn _ _ _ h).1
theorem YD {N:Nat} {c:bE} {kf:bE->Bool->aa} (h:cS c N) (h':cS c (N - 40)) (hN:200<N) (hl:c.2.2.2.2.2.1.length+1<N):EU N c kf=kf (pS c).1 (pS c).2:=by
 have hx:=aU;have t1:=h'.tN;have t2:=h'.jN;have t3:=h'.tm;have t4:=h'.jm;have hj:=h.jb;have htm:∀ x:bn,x∈c.1->x.met.length<=maxLen/\x.met.length+20<N:=λx hx=>⟨(t3 x hx).1,by have:=(t3 x hx).2;omega⟩;have Wp:∀ x∈c.2.1,x.2.2.length<=maxLen/\x.2.2.length+20<N:=λx hx=>⟨(t4 x hx).1,by have:=(t4 x hx).2;omega⟩;have Rx:∀ out lL AS,jg N c out false lL AS kf=kf c false:=λout lL AS=>(oS (out:=out) h (λe=>by cases e) hN hl);unfold EU pS;rw[dE h,Wn h.tl htm (by omega) (by omega)];unfold Z7;cases hr:Gs c.1 with
 |none=>simp only[];rw[I0 h.tl htm (by omega) (by omega) hj (by omega) Wp (by simp)];unfold Z7;cases B7 c.1 c.2.1 []<;>exact Rx _ _ _
 |some ps=>
 obtain⟨l1,l2⟩:=acA hr;simp only[];rw[I0 h.tl htm (by omega) (by omega) hj (by omega) Wp (by omega)];unfold Z7;have e0:(decide ((length ps:Int)=(length ps:Int))&&decide ((0:Int)<=(length ps:Int))&&decide ((length ps:Int)<=1099511627776))=true:=by rw[af rfl,dZ,dZ];rfl
 have e0t:(decide True&&decide ((0:Int)<=(length ps:Int))&&decide ((length ps:Int)<=1099511627776))=true:=by rw[af trivial,dZ,dZ];rfl
 cases hs:B7 c.1 c.2.1 ps with
 |none=>
 simp only[];first |rw[e0] |rw[e0t]
 exact Rx _ _ _
 |some ss=>
 have l3:=acD hs;have hd:=λok=>oS (out:=ai6 c ps ss) (ok:=ok) (lL:=3) (AS:=0) (kf:=kf) h (λ_=>ai7 h (by omega) (by omega) (by omega)) hN hl;simp only[];first |rw[e0] |rw[e0t]
 simp only[ab];unfold l6 Kc;by_cases iu:c.2.2.1.length=0
 ·rw[an (show ¬(length c.2.2.1:Int)>0 by omega),af iu];simp only[bC,ab,aA];have e2:decide ((length c.1:Int)>(0:Int))=decide (0<c.1.length):=ia.2 (by omega);rw[e2];refine(hd (decide (0<c.1.length))).trans ?_;cases decide (0<c.1.length)<;>rfl
 rw[af (show(length c.2.2.1:Int)>0 by omega),an iu];exact Rx _ _ _
theorem YE {N:Nat} {c:bE} {kf:bE->Bool->aa} (h:cS c N) (h':cS c (N - 40)) (hN:200<N) (hl:c.2.2.2.2.2.1.length+1<N):yn N c kf=kf (pS c).1 (pS c).2:=by
 have hx:=aU;have t1:=h'.tN;have t2:=h'.jN;have t3:=h'.tm;have t4:=h'.jm;have hj:=h.jb;have htm:∀ x:bn,x∈c.1->x.met.length<=maxLen/\x.met.length+20<N:=λx hx=>⟨(t3 x hx).1,by have:=(t3 x hx).2;omega⟩;have Wp:∀ x∈c.2.1,x.2.2.length<=maxLen/\x.2.2.length+20<N:=λx hx=>⟨(t4 x hx).1,by have:=(t4 x hx).2;omega⟩;have Rx:dm c=false->pS c=(c,false):=λhc=>by
  have hd:∀ out lL AS,tM c out lL AS=false:=λout lL AS=>(by unfold tM;rw[hc];simp);have hd2:∀ out lL AS,xF c out lL AS=c:=λout lL AS=>(by unfold xF;rw[hd];rfl);unfold pS;cases Gs c.1 with
  |none=>rfl
  |some ps=>
  simp only[];cases B7 c.1 c.2.1 ps with
  |none=>rfl
  |some ss=>simp only[hd,hd2];cases Kc c<;>rfl
 have aCJ:Kc c=false->pS c=(c,false):=λhc=>by
  unfold pS;cases Gs c.1 with
  |none=>rfl
  |some ps=>
  simp only[];cases B7 c.1 c.2.1 ps with
  |none=>rfl
  |some ss=>simp only[hc];rfl
 unfold yn;rw[cX h,td h];cases hc:dm c with
 |false=>rw[Rx hc];rfl
 |true=>
  unfold iS
  show(bif decide ((length c.2.2.1:Int)>(0:Int)) then _ else _)=_
  by_cases iu:c.2.2.1.length=0
  rotate_left
  ·rw[af (show(length c.2.2.1:Int)>0 by omega),ab,aCJ (by unfold Kc;rw[an iu];rfl)]
  rw[an (show ¬(length c.2.2.1:Int)>0 by omega),ae]
  by_cases h0:c.1.length=0
  ·have e:((length c.1:Int)==0)=true:=by simp[h0]
   rw[e,ab,aCJ (by unfold Kc;rw[an (show ¬ 0<c.1.length by omega)];simp)]
  have e:((length c.1:Int)==0)=false:=by simp;intro q;exact h0 (by simp[q])
  have hmp:Kc c=true:=by unfold Kc;rw[af iu,af (show 0<c.1.length by omega)];rfl
  rw[e,ae,Wo h.tl htm (by omega) (by omega)]
  unfold Z7 pS
  cases hr:Gs c.1 with
  |none=>
   simp only[]
   rw[I1 h.tl htm (by omega) (by omega) hj (by omega) Wp (by simp)]
   unfold Z7
   cases B7 c.1 c.2.1 []<;>rfl
  |some ps=>
   obtain⟨l1,l2⟩:=acA hr
   simp only[]
   rw[I1 h.tl htm (by omega) (by omega) hj (by omega) Wp (by omega)]
   unfold Z7
   have e0:(decide ((length ps:Int)=(length ps:Int))&&decide ((0:Int)<=(length ps:Int))&&decide ((length ps:Int)<=1099511627776))=true:=by
    rw[af rfl,dZ,dZ];rfl
   have e0t:(decide True&&decide ((0:Int)<=(length ps:Int))&&decide ((length ps:Int)<=1099511627776))=true:=by
    rw[af trivial,dZ,dZ];rfl
   cases hs:B7 c.1 c.2.1 ps with
   |none=>rfl
   |some ss=>
    have l3:=acD hs
    simp only[hmp,ab]
    first |rw[e0] |rw[e0t]
    simp only[ab,az,ae]
    exact qL (out:=ai6 c ps ss) h (ai7 h (by omega) (by omega) (by omega)) rfl hN hl
end Go.Pv.R
