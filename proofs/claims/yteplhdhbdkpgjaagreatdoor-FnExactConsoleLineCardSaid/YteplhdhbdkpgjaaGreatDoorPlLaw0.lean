/- The law over the plain functions. -/
import Derived.Test.YteplhdhbdkpgjaaGreatDoorPlHz
set_option linter.unusedSimpArgs false
set_option linter.unusedVariables false
noncomputable section
set_option autoImplicit true
set_option relaxedAutoImplicit true
namespace Go.Pv
open List Int IntKind
abbrev na:= @BitVec.ofInt_natCast
abbrev oM:= @BitVec.toNat_ofNat
abbrev qs:= @ByteArray.data_append
abbrev sU:= @ByteArray.ext
abbrev zw:= @Int.lt_irrefl
abbrev uA:= @Int.lt_trichotomy
abbrev ly:= @Int.natCast_add
abbrev fq:= @Int.tmod_eq_emod_of_nonneg
abbrev zx:= @Go.Lib.index_one
abbrev gD:= @Go.Lib.toList_data
abbrev wF:= @List.count_cons
abbrev nJ:= @List.nodup_iff_count
abbrev gE:= @List.pairwise_iff_getElem
abbrev wG:= @Nat.le_of_lt_succ
abbrev wH:= @Nat.lt_or_eq_of_le
abbrev vT:= @Nat.mul_succ
abbrev rE:= @Nat.pow_succ
abbrev wI:= @UInt8.toNat_inj
abbrev qU:= @bne_iff_ne
end Go.Pv
namespace Go.Pv.R
open List Int IntKind
theorem jy :cj N a b c kf=kf (pE a b c):=by unfold cj pE;by_cases h:b<=a<;>simp[h]
theorem ft :bw N a b c kf=kf (pE a b c):=by unfold bw pE;by_cases h:b<=a<;>simp[h]
theorem asX {s:Nat} {A B:aa} (h0:0<=left) (h:(s:Int)<=left->B=A):(bif decide (G3 left s<0) then A else B)=A:=by
 by_cases hn:G3 left s<0
 ·rw[af hn];rfl
 rw[ak hn,ae];exact h (by have:=(anC (s:=s) h0);omega)
theorem afc (a:Int):(a.tmod 2147483647=a%2147483647/\0<=a)∨(a.tmod 2147483647=-((-a)%2147483647)/\a<0):=by
 rcases Int.lt_or_le a 0 with h |h
 ·right;refine⟨?_,h⟩;have h1:(-a).tmod 2147483647=(-a)%2147483647:=fq (by omega);rw[Int.neg_tmod] at h1;omega
 exact .inl ⟨fq h,h⟩
theorem ajo :OK N a 2147483647 kf=kf (a%2147483647):=by
 unfold OK;rw[jy,show pE 2147483647 1 1000000000000=true from by decide];have e:(decide ((2147483647:Int)=0))=false:=by decide
 simp only[ay,ae,e,bD,ab];congr 1;rcases afc a with⟨h,h'⟩ |⟨h,h'⟩<;>rw[h,iT,fq (by omega)]<;>omega
theorem ajp :UL N a 2147483647 kf=kf (a%2147483647):=by
 unfold UL;rw[ft,show pE 2147483647 1 1000000000000=true from by decide];have e:(decide ((2147483647:Int)=0))=false:=by decide
 simp only[ay,ae,e,bD,ab];rcases afc a with⟨h,h'⟩ |⟨h,h'⟩<;>rw[h]
 ·rw[fD,ae]
 by_cases hz: -((-a)%2147483647)<0
 ·rw[af hz,ab,iT];congr 1;omega
 rw[ak hz,ae];congr 1;omega
def foldM (i:Nat) (x s:Int):Int:=Int.tmod (wrap .i64 ((wrap .i64 ((wrap .i64 (s*(1000003:Int)))+x%2147483647))+(13:Int))) (2147483647:Int)
def asY (l:List Int):Int:=foldI foldM l 0 11
theorem agU (hl:l.length<=maxLen) (hN:l.length<N):PX N l kf=kf (asY l):=by unfold PX;rw[acr hl hN,OD foldM (λi x s next h e=>by rw[ajo];rfl)];rfl
theorem agV (hl:l.length<=maxLen) (hN:l.length<N):P6 N l kf=kf (asY l):=by unfold P6;rw[acs hl hN,OD foldM (λi x s next h e=>by unfold P5;rw[ajp];rfl)];rfl
def Zp (s:Int) (x:QL):Int:=asY [s,x.1,x.2.1,x.2.2.1]
theorem NA (hN:4<N):uk N s x kf=kf (Zp s x):=by unfold uk;rw[agU (by rw[aT];simp) (by simpa using hN)];rfl
theorem Mc (hN:4<N):sk N s x kf=kf (Zp s x):=by unfold sk;rw[agV (by rw[aT];simp) (by simpa using hN)];rfl
def ajq:List QL->Nat->Int->Bool
 |[],_,_=>true
 |x::r,i,s=>(x.1==((i+1:Nat):Int))&&pE x.2.1 1 9&&pE x.2.2.1 0 99&&(x.2.2.2==Zp s x)&&ajq r (i+1) x.2.2.2
def uB (l:List QL):Bool:=decide (l.length<=200)&&ajq l 0 0
theorem zy (hl:l.length<=maxLen) (hN:l.length<N) (h4:4<N):qR N l kf=kf (uB l):=by
 unfold qR;rw[O7 hl hN];by_cases hc:l.length<=200
 ·have h1:(decide ((l.length:Int)<=200))=true:=eZ;have key:∀ (r:List QL) (i:Nat) (s:Int),l.drop i=r->dI (λ(i:Nat) (x:QL) (aC:Int) (next:Int->aa)=>
    bif (decide ((length l:Int)<=(200:Int))) then
     uk N aC x (λ(xn:Int)=>
      bif (x.1 != (wrap .i64 ((i:Int)+(1:Int)))) then kf false
      else
       cj N x.2.1 (1:Int) (9:Int) (λ(aiT:Bool)=>
        bif (!aiT) then kf false
        else
         cj N x.2.2.1 (0:Int) (99:Int) (λ(IG:Bool)=>
          bif (!IG) then kf false
          else
           bif (x.2.2.2 != xn) then kf false
           else next xn)))
    else kf (decide ((length l:Int)<=(200:Int)))) (λ(aC:Int)=>kf (decide ((length l:Int)<=(200:Int)))) r i s=kf (ajq r i s):=by
   intro r
   induction r with
   |nil=>intro i s _;simp only[dI,ajq,h1]
   |cons x r ih=>
    intro i s hd
    have gU:i<l.length:=by have:=bB length hd;simp at this;omega
    rw[aY gU] at hd
    injection hd with e1 e2
    simp only[dI,ajq]
    simp only[ih (i+1) _ e2]
    simp only[h1,ab,NA h4,jy,s4 gU hl]
    cases hx:(x.1==((i+1:Nat):Int)) with
    |false=>simp only[bne,hx,bD,ab,fE]
    |true=>
     simp only[bne,hx,ay,ae,aB]
     cases pE x.2.1 1 9<;>simp
     cases pE x.2.2.1 0 99<;>simp
     by_cases hs:x.2.2.2=Zp s x
     ·simp[hs]
     ·have:(x.2.2.2==Zp s x)=false:=by simpa using hs
      simp[this]
  refine dW (key l 0 0 rfl) ?_;unfold uB;simp[hc]
 have h1:(decide ((l.length:Int)<=200))=false:=fD;cases l with
 |nil=>simp at hc
 |cons x r=>simp only[dI,h1,ae];unfold uB;rw[ak hc];rfl
theorem zz (hl:l.length<=maxLen) (hN:l.length<N) (h4:4<N):qS N l kf=kf (uB l):=by
 unfold qS;by_cases hc:l.length<=200
 ·have h1:(decide ((l.length:Int)>200))=false:=fD;rw[h1,ae,O' hl hN];have key:∀ (r:List QL) (i:Nat) (s:Int),l.drop i=r->dI (λ(i:Nat) (x:QL) (dM:Int) (next:Int->aa)=>
    bif (x.1 != (wrap .i64 ((i:Int)+(1:Int)))) then kf false
    else
     bw N x.2.1 (1:Int) (9:Int) (λ(UM:Bool)=>
      bif (!UM) then kf false
      else
       bw N x.2.2.1 (0:Int) (99:Int) (λ(aja:Bool)=>
        bif (!aja) then kf false
        else
         sk N dM x (λ(ab':Int)=>
          bif (x.2.2.2 != ab') then kf false
          else next x.2.2.2)))) (λ(dM:Int)=>kf true) r i s=kf (ajq r i s):=by
   intro r
   induction r with
   |nil=>intro i s _;simp only[dI,ajq]
   |cons x r ih=>
    intro i s hd
    have gU:i<l.length:=by have:=bB length hd;simp at this;omega
    rw[aY gU] at hd
    injection hd with e1 e2
    simp only[dI,ajq]
    simp only[ih (i+1) _ e2]
    simp only[Mc h4,ft,s4 gU hl]
    cases hx:(x.1==((i+1:Nat):Int)) with
    |false=>simp only[bne,hx,bD,ab,fE]
    |true=>
     simp only[bne,hx,ay,ae,aB]
     cases pE x.2.1 1 9<;>simp
     cases pE x.2.2.1 0 99<;>simp
     by_cases hs:x.2.2.2=Zp s x
     ·simp[hs]
     ·have:(x.2.2.2==Zp s x)=false:=by simpa using hs
      simp[this]
  refine dW (key l 0 0 rfl) ?_;unfold uB;simp[hc]
 have h1:(decide ((l.length:Int)>200))=true:=eZ;rw[h1,ab];unfold uB;rw[ak hc];rfl
end Go.Pv.R
namespace Go.Pv
open List Int IntKind
theorem acD {α:Type} {p:α->Bool}:∀ {l:List α} {i k:Nat},xX p l i=some k->∃ j,∃ h:j<l.length,k=i+j/\p l[j]=true/\∀ j' (h':j'<j),p (l[j']'(by omega))=false
 |[],i,k,h=>by cases h
 |x::r,i,k,h=>by
  simp only[xX] at h;cases hp:p x with
  |true=>rw[hp] at h;injection h with h;exact⟨0,by simp,by omega,hp,λj' h'=>by omega⟩
  |false=>
  rw[hp] at h;obtain⟨j,hj,e,h1,h2⟩:=acD (l:=r) h;refine⟨j+1,by simpa using hj,by omega,h1,λj' h'=>?_⟩;cases j' with
  |zero=>exact hp
  |succ j'=>exact h2 j' (by omega)
theorem acE {α:Type} {p:α->Bool}:∀ {l:List α} {i:Nat},xX p l i=none->∀ j (h:j<l.length),p l[j]=false
 |[],i,h,j,hj=>by simp at hj
 |x::r,i,h,j,hj=>by
  simp only[xX] at h;cases hp:p x with
  |true=>rw[hp] at h;cases h
  |false=>
  rw[hp] at h;cases j with
  |zero=>exact hp
  |succ j=>exact acE (l:=r) h j (by simpa using hj)
theorem BN {α:Type} {body:Nat->α->aa->aa} {kf:Nat->aa} {p:α->Bool} (hb:∀ (i:Nat) (x:α) (next:aa),body i x next=bif p x then kf i else next):∀ (l:List α) (i:Nat),A4 body du l i=match xX p l i with
  |some k=>kf k
  |none=>du
 |[],_=>rfl
 |x::r,i=>by
  simp only[A4,xX]
  rw[hb]
  cases p x
  ·exact BN hb r (i+1)
  ·rfl
def uV {α:Type} (p:α->Bool) (l:List α):Int:=match xX p l 0 with
 |some k=>(k:Int)
 |none=>-1
theorem gZ {α:Type} {p:α->Bool} {l:List α} (h: ¬uV p l<0):∃ k:Nat,∃ hk:k<l.length,uV p l=(k:Int)/\p l[k]=true/\∀ j (hj:j<k),p (l[j]'(by omega))=false:=by
 unfold uV at*;split at h
 ·rename_i k hk;obtain⟨j,hj,e,h1,h2⟩:=acD hk;obtain rfl:k=j:=by omega
  exact⟨k,hj,rfl,h1,h2⟩
 omega
theorem X5 {α:Type} {p:α->Bool} {l:List α} (h:uV p l<0):uV p l=-1/\∀ j (hj:j<l.length),p l[j]=false:=by
 unfold uV at*;split at h
 ·omega
 rename_i hn;exact⟨rfl,acE hn⟩
theorem acF {α:Type} {p q:Nat->α->Bool}:∀ {l:List α} {i:Nat},allI (λi x=>p i x&&q i x) l i=(allI p l i&&allI q l i)
 |[],_=>rfl
 |x::r,i=>by simp only[allI,acF (l:=r)];cases p i x<;>cases q i x<;>cases allI p r (i+1)<;>simp
theorem amc {α:Type} {p q:Nat->α->Bool} {l:List α} (h:∀ (j:Nat) (hj:j<l.length),p j l[j]=q j l[j]):allI p l 0=allI q l 0:=by
 apply b9.2;rw[uN,uN];constructor
 ·intro h1 j hj;have:=h1 j hj;rw[aW] at*;rw[←h j hj];exact this
 intro h1 j hj;have:=h1 j hj;rw[aW] at*;rw[h j hj];exact this
theorem Me (h0:0<i) (h:i<m) (hm:m<=maxLen):wrap .i64 ((i:Int) - 1)=((i - 1:Nat):Int):=by have:=aT;rw[wrap64]<;>omega
end Go.Pv
namespace Go.Pv.R
open List Int IntKind
abbrev bC:=QT
def bM (l:List bC) (id:Int):Int:=uV (λx:bC=>x.1==id) l
theorem gf {N:Nat} {l:List bC} {id:Int} {kf:Int->aa} (hl:l.length<=maxLen) (hN:l.length<N):fG N l id kf=kf (bM l id):=by unfold fG;rw[SG hl hN,BN (p:=λx:bC=>x.1==id) (kf:=λi=>kf (i:Int)) (λi x next=>rfl)];unfold bM uV;cases xX (λx:bC=>x.1==id) l 0<;>rfl
theorem gg {N:Nat} {l:List bC} {id:Int} {kf:Int->aa} (hl:l.length<=maxLen) (hN:l.length<N):eR N l id kf=kf (bM l id):=by unfold eR jv;rw[uy hl hN];simp only[yR];rw[BN (p:=λx:bC=>x.1==id) (kf:=λi=>kf (i:Int)) (λi x next=>rfl)];unfold bM uV;cases xX (λx:bC=>x.1==id) l 0<;>rfl
def Jd (l:List Int) (n:Int):Int:=foldI (λi x s=>bif x==n then wrap .i64 (s+1) else s) l 0 0
theorem Mf (hl:l.length<=maxLen) (hN:l.length<N):sh N l n kf=kf (Jd l n):=by unfold sh;rw[SH hl hN,OD (λi x s=>bif x==n then wrap .i64 (s+1) else s) (λi x s next h e=>by cases x==n<;>rfl)];rfl
theorem Fj (hl:l.length<=maxLen) (hN:l.length<N):qp N l n kf=kf (Jd l n):=by unfold qp;rw[ZK hl hN,OD (λi x s=>bif x==n then wrap .i64 (s+1) else s) (λi x s next h e=>by cases x==n<;>rfl)];rfl
abbrev bC.met (x:bC):List Int:=x.2.2.2.2.2
def Dd (l:List bC) (i:Nat) (x:bC):Bool:=pE x.1 1 99&&(pE x.2.1 1 99&&(pE x.2.2.1 0 x.met.length&&(pE x.2.2.2.2.1 0 x.met.length&&(pE x.2.2.2.1 0 100000&&(decide (x.met.length<=20)&&(decide (i=0)||decide ((l.getD (i - 1) eD).1<x.1)))))))
def agW (l:List bC) (x:bC) (id:Int):Bool:=!decide (bM l id<0)&&(!(id==x.1)&&(Jd x.met id==Jd (l.getD (bM l id).toNat eD).met x.1))
def bG (l:List bC):Bool:=decide (l.length<=10)&&(allI (Dd l) l 0&&allI (λ_ x=>x.met.all (agW l x)) l 0)
def agX (l:List bC) (i:Nat) (x:bC) (id:Int):Bool:=!decide (bM l id<0)&&(!(bM l id==(i:Int))&&(Jd (l.getD (bM l id).toNat eD).met x.1==Jd x.met (l.getD (bM l id).toNat eD).1))
theorem Je {α:Type} {p:α->Bool}:∀ {l:List α} {i:Nat},allI (λ_ x=>p x) l i=l.all p
 |[],_=>rfl
 |x::r,i=>by simp only[allI,lM,Je (l:=r)]
theorem SX (h:allI (Dd l) l 0=true):∀ (j i:Nat) (hi:i<l.length),j<i->(l.getD j eD).1<l[i].1:=by
 rw[uN] at h;have step:∀ (i:Nat) (hi:i<l.length),0<i->(l.getD (i - 1) eD).1<l[i].1:=λi hi h0=>by have:=h i hi;rw[aW] at this;simp only[Dd,ai,bo,ax] at this;omega
 intro j i hi HE;induction i with
 |zero=>omega
 |succ i ih=>
 have h1:=step (i+1) hi (by omega);rw[pF,aI _ _ (show i<l.length by omega)] at h1;rcases wH (wG HE) with h2 |rfl
 ·have:=ih (by omega) h2;omega
 rw[aI _ _ (by omega)];exact h1
theorem acG (h:allI (Dd l) l 0=true) {i:Nat} (hi:i<l.length) {id:Int}:bM l id=(i:Int)↔id=l[i].1:=by
 constructor
 ·intro e;obtain⟨k,hk,e1,h1,_⟩:=gZ (p:=λx:bC=>x.1==id) (l:=l) (by unfold bM at e;omega);unfold bM at e;obtain rfl:k=i:=by omega
  exact(bY.1 h1).symm
 rintro rfl;unfold bM;by_cases hn:uV (λx:bC=>x.1==l[i].1) l<0
 ·have:=(X5 hn).2 i hi;simp at this
 obtain⟨k,hk,e1,h1,h2⟩:=gZ hn;rw[e1];have h1:l[k].1=l[i].1:=by simpa using h1
 rcases Nat.lt_trichotomy k i with gU |rfl |gU
 ·have:=SX h k i hi gU;rw[aI _ _ hk] at this;omega
 ·rfl
 have:=h2 i gU;simp at this
theorem avN (h:allI (Dd l) l 0=true) (hi:i<l.length) (id:Int):agX l i l[i] id=agW l l[i] id:=by
 unfold agX agW;by_cases hn:bM l id<0
 ·simp[hn]
 rw[ak hn,bD,aB,aB];have e1:(bM l id==(i:Int))=(id==l[i].1):=by apply b9.2;rw[bY,bY];exact acG h hi
 rw[e1];obtain⟨k,hk,e2,h2,_⟩:=gZ (p:=λx:bC=>x.1==id) hn;have e3:bM l id=(k:Int):=e2;rw[e3,aj,aI _ _ hk,show l[k].1=id by simpa using h2];congr 1;apply b9.2;rw[bY,bY];exact⟨λh=>h.symm,λh=>h.symm⟩
theorem ajr (l:List bC):(allI (λi x=>Dd l i x&&x.met.all (agX l i x)) l 0&&decide (l.length<=10))=bG l:=by
 unfold bG;rw[acF];cases h:allI (Dd l) l 0 with
 |false=>simp
 |true=>have:allI (λi x=>x.met.all (agX l i x)) l 0=allI (λ_ x=>x.met.all (agW l x)) l 0:=amc λj hj=>(by congr 1;funext id;exact avN h hj id);rw[this];cases decide (l.length<=10)<;>simp
theorem gh {l:List bC} {kf:Bool->aa} (hl:l.length<=maxLen) (hm:∀ x∈l,x.met.length<=maxLen/\x.met.length<N) (hN:l.length<N):ez N l kf=kf (bG l):=by
 unfold ez;rw[SJ hl hN,om (l:=l) (p:=λi x=>Dd l i x&&x.met.all (agX l i x)) (kf:=kf false) (λi x next h e=>?_) l 0 rfl,←ajr]
 ·cases allI (λi x=>Dd l i x&&x.met.all (agX l i x)) l 0
  ·rfl
  simp only[ab,aB];congr 1;apply b9.2;simp;omega
 have hx:x∈l:=by rw[←e];exact aK h
 obtain⟨m1,m2⟩:=hm x hx;have inner:fZ N l (i:Int) x N next kf (0:Int)=bif x.met.all (agX l i x) then next else kf false:=by
  rw[SI m1 m2,om (l:=x.met) (p:=λ_ id=>agX l i x id) (kf:=kf false) (λj id next' hj ej=>?_) x.met 0 rfl,Je];rw[gf hl hN];unfold agX;by_cases hn:bM l id<0
  ·simp[hn]
  rw[ak hn,ae,bD,aB];cases hf:bM l id==(i:Int)
  ·obtain⟨k,hk,e2,h2,_⟩:=gZ (p:=λx:bC=>x.1==id) hn;have e3:bM l id=(k:Int):=e2;obtain⟨q1,q2⟩:=hm l[k] (aK hk);rw[ae,e3,aJ hk,ab,ab,aj,aI _ _ hk,Mf q1 q2,Mf m1 m2];cases hc:(Jd l[k].met x.1==Jd x.met l[k].1)<;>simp[bne,hc]
  simp
 have ord:∀ A B:aa,(bif (decide ((i:Int)>(0:Int))) then
   bif (bj (wrap .i64 ((i:Int) - (1:Int))) (length l)) then
    bif (decide ((getD l (toNat (wrap .i64 ((i:Int) - (1:Int)))) eD).1≥x.1)) then A else B
   else none
  else B)=bif (decide (i=0)||decide ((l.getD (i - 1) eD).1<x.1)) then B else A:=λA B=>by
  by_cases h0:i=0
  ·subst h0;simp
  ·rw[af (show(i:Int)>0 by omega),ab,Me (by omega) h hl,aJ (by omega),ab,aj,ak h0,eV]
   by_cases hc:(l.getD (i - 1) eD).1<x.1
   ·rw[fD,af hc];rfl
   ·rw[eZ,ak hc];rfl
 simp only[jy,inner,ord];unfold Dd;cases pE x.1 1 99<;>simp;cases pE x.2.1 1 99<;>simp;cases pE x.2.2.1 0 x.met.length<;>simp;cases pE x.2.2.2.2.1 0 x.met.length<;>simp;cases pE x.2.2.2.1 0 100000<;>simp;by_cases Zq:x.met.length<=20
 ·rw[ak (show ¬(20:Int)<(x.met.length:Int) by omega),af Zq];simp;cases (decide (i=0)||decide ((l[i - 1]?.getD eD).1<x.1))<;>simp
 rw[af (show(20:Int)<(x.met.length:Int) by omega),ak Zq];simp
theorem hJ {l:List bC} {kf:Bool->aa} (hl:l.length<=maxLen) (hm:∀ x∈l,x.met.length<=maxLen/\x.met.length<N) (hN:l.length<N):gq N l kf=kf (bG l):=by
 unfold gq
 by_cases h10:l.length<=10
 rotate_left
 ·rw[eZ,ab]
  unfold bG
  rw[ak h10]
  rfl
 rw[fD,ae]
 rw[SN hl hN,om (l:=l) (p:=λi x=>Dd l i x&&x.met.all (agW l x)) (kf:=kf false) (λi x next h e=>?_) l 0 rfl]
 ·unfold bG
  rw[af h10,aB,acF]
  cases (allI (Dd l) l 0&&allI (λ_ x=>x.met.all (agW l x)) l 0)<;>rfl
 ·have hx:x∈l:=by rw[←e];exact aK h
  obtain⟨m1,m2⟩:=hm x hx
  have inner:gp N l x l (length l:Int) (i:Int) x.2.2.2.2.2 (length x.2.2.2.2.2:Int) N next kf (0:Int)=bif x.met.all (agW l x) then next else kf false:=by
   rw[QE m1 m2,om (l:=x.met) (p:=λ_ id=>agW l x id) (kf:=kf false) (λj id next' hj ej=>?_) x.met 0 rfl,Je]
   rw[gg hl hN]
   unfold agW
   by_cases hn:bM l id<0
   ·simp[hn]
   ·rw[ak hn,ae,bD,aB]
    cases hf:id==x.1
    ·obtain⟨k,hk,e2,h2,_⟩:=gZ (p:=λx:bC=>x.1==id) hn
     have e3:bM l id=(k:Int):=e2
     obtain⟨q1,q2⟩:=hm l[k] (aK hk)
     rw[ae,e3,aJ hk,ab,aj,aI _ _ hk,Fj m1 m2,Fj q1 q2]
     cases hc:(Jd x.met id==Jd l[k].met x.1)<;>simp[bne,hc]
    ·simp
  have ord:∀ A B:aa,(bif (decide ((i:Int)>(0:Int))) then
    bif (bj (wrap .i64 ((i:Int) - (1:Int))) (length l)) then
     bif (decide (x.1<=(getD l (toNat (wrap .i64 ((i:Int) - (1:Int)))) eD).1)) then A else B
    else none
   else B)=bif (decide (i=0)||decide ((l.getD (i - 1) eD).1<x.1)) then B else A:=λA B=>by
   by_cases h0:i=0
   ·subst h0;simp
   ·rw[af (show(i:Int)>0 by omega),ab,Me (by omega) h hl,aJ (by omega),ab,aj,ak h0,eV]
    by_cases hc:(l.getD (i - 1) eD).1<x.1
    ·rw[fD,af hc];rfl
    ·rw[eZ,ak hc];rfl
  simp only[ft,inner,ord]
  unfold Dd
  cases pE x.1 1 99<;>simp
  cases (decide (i=0)||decide ((l[i - 1]?.getD eD).1<x.1))<;>simp
  cases pE x.2.1 1 99<;>simp
  by_cases Zq:x.met.length<=20
  ·rw[ak (show ¬(20:Int)<(x.met.length:Int) by omega),af Zq]
   simp
   cases pE x.2.2.1 0 x.met.length<;>simp
   cases pE x.2.2.2.2.1 0 x.met.length<;>simp
   cases pE x.2.2.2.1 0 100000<;>simp
  ·rw[af (show(20:Int)<(x.met.length:Int) by omega),ak Zq]
   simp
theorem ajs {l:List bC} (hw:wf (.sl lG) l) (hN:aQ (.sl lG) l<N):∀ x∈l,x.met.length<=maxLen/\x.met.length<N:=λx hx=>by
 have h1:=eA (t:=lG) hx;have h2:aQ lG x=aQ (.sl (.int .i64)) x.2.2.2.2.2:=by simp[aQ]
 have h3:=cC (t:=.int .i64) x.2.2.2.2.2;exact⟨(hw.2 x hx).2.2.2.2.2.1,by show x.2.2.2.2.2.length<N;omega⟩
end Go.Pv.R
namespace Go.Pv
open List Int IntKind
def lE {α β:Type} (c:Nat->α->Bool) (f:Nat->α->β):List α->Nat->List β
 |[],_=>[]
 |x::r,i=>bif c i x then f i x::lE c f r (i+1) else lE c f r (i+1)
theorem rF {α β:Type} {c:Nat->α->Bool} {f:Nat->α->β}:∀ (l:List α) (i:Nat),(lE c f l i).length<=l.length
 |[],_=>aR _
 |x::r,i=>by simp only[lE];have:=rF (c:=c) (f:=f) r (i+1);cases c i x<;>simp<;>omega
theorem mS {α β:Type} {body:Nat->α->List β->(List β->aa)->aa} {du:List β->aa} {c:Nat->α->Bool} {f:Nat->α->β} {l:List α} (hb:∀ (i:Nat) (x:α) (s:List β) (next:List β->aa) (h:i<l.length),l[i]=x->s.length<=i->body i x s next=bif c i x then next (s++[f i x]) else next s): ∀ (r:List α) (i:Nat) (s:List β),l.drop i=r->s.length<=i->dI body du r i s=du (s++lE c f r i)
 |[],i,s,_,_=>by simp[dI,lE]
 |x::r,i,s,hd,hs=>by
  have gU:i<l.length:=(by have:=bB length hd;simp at this;omega);rw[aY gU] at hd;injection hd with h1 h2;simp only[dI,lE];rw[hb i x s _ gU h1 hs];cases c i x
  ·rw[ae,ae];exact mS hb r (i+1) s h2 (by omega)
  rw[ab,ab,mS hb r (i+1) (s++[f i x]) h2 (by simp;omega)];simp
theorem ax' (h:a+b<=4000000000000/k) (hk:0<k):decide ((a+b)*k<=4398046511104)=true:=by refine af ?_;have:=aD k h;have:=Nat.div_mul_le_self 4000000000000 k;omega
theorem afd {α:Type} (p:α->Bool) (l:List α):decide (uV p l≥0)=l.any p:=by
 by_cases h:uV p l<0
 ·rw[fD];symm;rw[dh];intro x hx;obtain⟨j,hj,rfl⟩:=bL.1 hx;rw[(X5 h).2 j hj];simp
 rw[eZ];symm;rw[dB];obtain⟨k,hk,_,h1,_⟩:=gZ h;exact⟨l[k],aK hk,h1⟩
theorem X6 (n:Int):∀ (l:List Int) (i:Nat) (s:Nat),s+l.length<=maxLen->foldI (λ_ x s=>bif x==n then wrap .i64 (s+1) else s) l i (s:Int)=((s+l.count n:Nat):Int)
 |[],_,_,_=>by simp[foldI]
 |x::r,i,s,h=>by
  simp only[foldI,wF];simp only[an] at h;have:=aT;cases hx:x==n with
  |false=>simp only[ae];rw[X6 n r (i+1) s (by omega)];simp
  |true=>simp only[ab,dF];rw[iT,show((s:Int)+1)=((s+1:Nat):Int) by omega,X6 n r (i+1) (s+1) (by omega)];congr 1;omega
theorem acH {b:List Int} (hb:b.Nodup):∀ (a:List Int),(∀ x∈a,x∈b)->(b.map λx=>a.count x).sum=a.length
 |[],_=>by
  have:∀ l:List Int,(l.map λx=>([]:List Int).count x).sum=0:=by
   intro l;induction l with
   |nil=>rfl
   |cons x r ih=>rw[bq,fF,ih];simp
  rw[this];rfl
 |y::a,h=>by
  have ih:=acH hb a (λx hx=>h x (by simp[hx]));have hy:=h y (by simp);have key:∀ l:List Int,(l.map λx=>(y::a).count x).sum=(l.map λx=>a.count x).sum+l.count y:=by
   intro l;induction l with
   |nil=>rfl
   |cons x r ihl=>
   rw[bq,fF,ihl,bq,fF,wF,wF];by_cases hxy:y=x
   ·subst hxy;simp;omega
   have h1:(y==x)=false:=(by simpa using hxy);have h2:(x==y)=false:=(by simpa using λe=>hxy e.symm);rw[h1,h2];simp;omega
  rw[key,ih,an];have:b.count y=1:=(by have h1:=List.count_pos_iff.2 hy;have h2:=nJ.1 hb y;omega);omega
theorem avO {b:List Int} (h1:∀ x∈b,f x<=1) (h2:(b.map f).sum=b.length):∀ x∈b,f x=1:=by
 have le:∀ l:List Int,(∀ x∈l,f x<=1)->(l.map f).sum<=l.length:=by
  intro l;induction l with
  |nil=>intro _;simp
  |cons x r ih=>intro h;have:=ih (λy hy=>h y (by simp[hy]));have:=h x (by simp);simp;omega
 induction b with
 |nil=>intro x hx;cases hx
 |cons y r ih=>
 have hr:=le r (λx hx=>h1 x (by simp[hx]));have hy:=h1 y (by simp);simp only[bq,fF,an] at h2;intro x hx;rcases aV.1 hx with rfl |hx
 ·omega
 exact ih (λx hx=>h1 x (by simp[hx])) (by omega) x hx
theorem asZ {a b:List Int} (hb:b.Nodup) (h:∀ x∈a,x∈b):(∀ x∈b,a.count x=1)↔a.Nodup/\a.length=b.length:=by
 have hs:=acH hb a h;constructor
 ·intro h1;refine⟨nJ.2 λx=>?_,?_⟩
  ·by_cases hx:x∈a
   ·rw[h1 x (h x hx)];exact aR _
   rw[List.count_eq_zero_of_not_mem hx];omega
  have key:∀ l:List Int,(∀ x∈l,a.count x=1)->(l.map λx=>a.count x).sum=l.length:=by
   intro l;induction l with
   |nil=>intro _;rfl
   |cons x r ih=>intro h;simp[ih (λy hy=>h y (by simp[hy])),h x (by simp)];omega
  rw[key b h1] at hs;exact hs.symm
 intro ⟨h1,h2⟩;exact avO (λx _=>nJ.1 h1 x) (by rw[hs,h2])
end Go.Pv
namespace Go.Pv.R
open List Int IntKind
abbrev dJ:=QJ
abbrev lI:=KW
theorem afe (h:l.length<=maxLen):Jd l n=(l.count n:Int):=by have:=X6 n l 0 0 (by omega);rw[aW] at this;exact this
def BO (l:List Int) (n:Int):Bool:=l.any λx=>x==n
theorem BP :BO l n=true↔n∈l:=by
 unfold BO;rw[dB];constructor
 ·rintro⟨x,hx,h⟩;have:x=n:=by simpa using h
  exact this▸hx
 intro h;exact⟨n,h,by simp⟩
theorem pS {N:Nat} {l:List Int} {n:Int} {kf:Bool->aa} (hl:l.length<=maxLen) (hN:l.length<N):fm N l n kf=kf (BO l n):=by
 unfold fm;rw[ZJ hl hN,BN (p:=λx:Int=>x==n) (kf:=λ_=>kf true) (λi x next=>rfl)];unfold BO;rw[←afd];unfold uV;cases xX (λx:Int=>x==n) l 0
 ·rfl
 rw[af (by simp)]
theorem pK (hl:l.length<=maxLen) (hN:l.length<N):dQ N l n kf=kf (BO l n):=by
 unfold dQ nu;rw[Dc hl hN,BN (p:=λx:Int=>n==x) (kf:=λi=>kf (decide ((i:Int)≥0))) (λi x next=>rfl)];have e:BO l n=l.any λx=>n==x:=by unfold BO;congr 1;funext x;apply b9.2;rw[bY,bY];exact⟨λh=>h.symm,λh=>h.symm⟩
 rw[e,←afd];unfold uV;cases xX (λx:Int=>n==x) l 0<;>rfl
def ij (l:List dJ) (id:Int):Int:=uV (λx:dJ=>x.1==id) l
theorem GH {N:Nat} {l:List dJ} {id:Int} {kf:Int->aa} (hl:l.length<=maxLen) (hN:l.length<N):jr N l id kf=kf (ij l id):=by unfold jr;rw[U9 hl hN,BN (p:=λx:dJ=>x.1==id) (kf:=λi=>kf (i:Int)) (λi x next=>rfl)];unfold ij uV;cases xX (λx:dJ=>x.1==id) l 0<;>rfl
theorem uC {N:Nat} {l:List dJ} {id:Int} {kf:Int->aa} (hl:l.length<=maxLen) (hN:l.length<N):eo N l id kf=kf (ij l id):=by unfold eo;rw[tC hl hN];simp only[xh];rw[BN (p:=λx:dJ=>x.1==id) (kf:=λi=>kf (i:Int)) (λi x next=>rfl)];unfold ij uV;cases xX (λx:dJ=>x.1==id) l 0<;>rfl
theorem GI {N:Nat} {l:List dJ} {id:Int} {kf:Int->aa} (hl:l.length<=maxLen) (hN:l.length<N):pI N l id kf=kf (ij l id):=by unfold pI jw;rw[uz hl hN];simp only[BB];rw[BN (p:=λx:dJ=>x.1==id) (kf:=λi=>kf (i:Int)) (λi x next=>rfl)];unfold ij uV;cases xX (λx:dJ=>x.1==id) l 0<;>rfl
def ajt (s:List Int):Bool:=allI (λi y=>pE y 1 99&&(decide (i=0)||decide (s.getD (i - 1) 0<y))) s 0
def K8 (l:List dJ) (i:Nat) (x:dJ):Bool:=pE x.1 1 99&&(pE x.2.1 1 99&&((decide (i=0)||decide ((l.getD (i - 1) ib).1<x.1))&&ajt x.2.2))
def gM (l:List dJ):Bool:=decide (l.length<=10)&&allI (K8 l) l 0
theorem amd {α:Type} {l:List α} {i:Nat} {z:α} {g:α->Int} {A B:aa} (hi:i<l.length) (hl:l.length<=maxLen):(bif (decide ((i:Int)>(0:Int))) then bif (bj (wrap .i64 ((i:Int) - (1:Int))) (length l)) then bif (decide (y<=g (getD l (toNat (wrap .i64 ((i:Int) - (1:Int)))) z))) then A else B else none else B)=bif (decide (i=0)||decide (g (l.getD (i - 1) z)<y)) then B else A:=by
 by_cases h0:i=0
 ·subst h0;simp
 rw[af (show(i:Int)>0 by omega),ab,Me (by omega) hi hl,aJ (by omega),ab,aj,ak h0,eV];by_cases hc:g (l.getD (i - 1) z)<y
 ·rw[fD,af hc];rfl
 rw[eZ,ak hc];rfl
theorem anU {α:Type} {l:List α} {i:Nat} {z:α} {g:α->Int} {A B:aa} (hi:i<l.length) (hl:l.length<=maxLen):(bif (decide ((i:Int)>(0:Int))) then bif (bj (wrap .i64 ((i:Int) - (1:Int))) (length l)) then bif (decide (g (getD l (toNat (wrap .i64 ((i:Int) - (1:Int)))) z)≥y)) then A else B else none else B)=bif (decide (i=0)||decide (g (l.getD (i - 1) z)<y)) then B else A:=amd hi hl
theorem BQ {N:Nat} {l:List dJ} {kf:Bool->aa} (hl:l.length<=maxLen) (hm:∀ x∈l,x.2.2.length<=maxLen/\x.2.2.length<N) (hN:l.length<N):s9 N l kf=kf (gM l):=by
 unfold s9;rw[Qt hl hN,om (l:=l) (p:=K8 l) (kf:=kf false) (λi x next h e=>?_) l 0 rfl]
 ·unfold gM;cases allI (K8 l) l 0
  ·simp
  simp only[ab,dd];congr 1;apply b9.2;simp;omega
 have hx:x∈l:=by rw[←e];exact aK h
 obtain⟨m1,m2⟩:=hm x hx;have inner:eW N l (i:Int) N next kf (0:Int)=bif ajt x.2.2 then next else kf false:=by
  have hg:getD l (toNat (i:Int)) ib=x:=(by rw[aj,aI _ _ h,e]);rw[Qs (aJ h) (by rw[hg];exact m1) (by rw[hg];exact m2)];simp only[hg];rw[om (l:=x.2.2) (p:=λi y=>pE y 1 99&&(decide (i=0)||decide (x.2.2.getD (i - 1) 0<y))) (kf:=kf false) (λj y next' hj ej=>?_) x.2.2 0 rfl]
  ·rfl
  rw[jy];have:=anU (l:=x.2.2) (z:=(0:Int)) (g:=λx=>x) (y:=y) (A:=kf false) (B:=next') hj m1;rw[this];cases pE y 1 99<;>simp
 simp only[jy,inner];have ho:=λA B=>anU (l:=l) (z:=ib) (g:=λx=>x.1) (y:=x.1) (A:=A) (B:=B) h hl;simp only[ho];unfold K8;cases pE x.1 1 99<;>simp;cases pE x.2.1 1 99<;>simp;cases (decide (i=0)||decide ((l[i - 1]?.getD ib).1<x.1))<;>simp
theorem BR {N:Nat} {l:List dJ} {kf:Bool->aa} (hl:l.length<=maxLen) (hm:∀ x∈l,x.2.2.length<=maxLen/\x.2.2.length<N) (hN:l.length<N):tu N l kf=kf (gM l):=by
 unfold tu
 by_cases h10:l.length<=10
 rotate_left
 ·rw[eZ,ab]
  unfold gM
  rw[ak h10]
  rfl
 rw[fD,ae]
 rw[QG hl hN,om (l:=l) (p:=K8 l) (kf:=kf false) (λi x next h e=>?_) l 0 rfl]
 ·unfold gM
  rw[af h10,aB]
  cases allI (K8 l) l 0<;>rfl
 ·have hx:x∈l:=by rw[←e];exact aK h
  obtain⟨m1,m2⟩:=hm x hx
  have inner:fA N l x l (length l:Int) (i:Int) x.2.2 (length x.2.2:Int) N next kf (0:Int)=bif ajt x.2.2 then next else kf false:=by
   rw[QF m1 m2]
   rw[om (l:=x.2.2) (p:=λi y=>pE y 1 99&&(decide (i=0)||decide (x.2.2.getD (i - 1) 0<y))) (kf:=kf false) (λj y next' hj ej=>?_) x.2.2 0 rfl]
   ·rfl
   ·rw[ft]
    have:=amd (l:=x.2.2) (z:=(0:Int)) (g:=λx=>x) (y:=y) (A:=kf false) (B:=next') hj m1
    rw[this]
    cases pE y 1 99<;>simp
  simp only[ft,inner]
  have ho:=λA B=>amd (l:=l) (z:=ib) (g:=λx=>x.1) (y:=x.1) (A:=A) (B:=B) h hl
  simp only[ho]
  unfold K8
  cases pE x.1 1 99<;>simp
  cases pE x.2.1 1 99<;>simp
  cases (decide (i=0)||decide ((l[i - 1]?.getD ib).1<x.1))<;>simp
theorem agY {l:List dJ} (hw:wf (.sl n5) l) (hN:aQ (.sl n5) l<N):∀ x∈l,x.2.2.length<=maxLen/\x.2.2.length<N:=λx hx=>by
 have h1:=eA (t:=n5) hx;have h2:aQ n5 x=aQ (.sl (.int .i64)) x.2.2:=by simp[aQ]
 have h3:=cC (t:=.int .i64) x.2.2;exact⟨(hw.2 x hx).2.2.1,by omega⟩
def acI (l:List bC) (id:Int):Int:=(l.getD (bM l id).toNat eD).2.1
def aEj (l:List bC) (id:Int):List Int:=(l.getD (bM l id).toNat eD).met
def Pd (l:List bC) (a b:Int):Bool:=decide (bM l a≥0)&&BO (aEj l a) b
def kx (l:List bC) (a b:Int):Bool:=bG l&&(decide (bM l a≥0)&&(decide (bM l b≥0)&&((bM l a != bM l b)&&((acI l a != acI l b)&& !Pd l a b))))
theorem tD {l:List bC} {id:Int} (h:bM l id≥0):bj (bM l id) l.length=true/\(bM l id).toNat<l.length:=by obtain⟨k,hk,e,_⟩:=gZ (p:=λx:bC=>x.1==id) (l:=l) (by unfold bM at h;omega);have e:bM l id=(k:Int):=e;rw[e];exact⟨aJ hk,by simpa using hk⟩
theorem ZY {N:Nat} {l:List bC} (hl:l.length<=maxLen) (hm:∀ x∈l,x.met.length<=maxLen/\x.met.length<N) (hN:l.length<N):HR N l a b kf=kf (Pd l a b):=by
 unfold HR Pd;rw[gf hl hN];by_cases h:bM l a≥0
 ·obtain⟨h1,h2⟩:=tD h;have hx:l.getD (bM l a).toNat eD∈l:=(by rw[aI _ _ h2];exact aK h2);obtain⟨m1,m2⟩:=hm _ hx;rw[af h,ab,h1,ab,pS m1 m2];rfl
 rw[ak h];rfl
theorem ZZ {N:Nat} {l:List bC} (hl:l.length<=maxLen) (hm:∀ x∈l,x.met.length<=maxLen/\x.met.length<N) (hN:l.length<N):HY N l a b kf=kf (Pd l a b):=by
 unfold HY Pd;rw[gg hl hN];by_cases h:bM l a≥0
 ·obtain⟨h1,h2⟩:=tD h;have hx:l.getD (bM l a).toNat eD∈l:=(by rw[aI _ _ h2];exact aK h2);obtain⟨m1,m2⟩:=hm _ hx;rw[af h,ab,h1,ab,pK m1 m2];rfl
 rw[ak h];rfl
theorem NB {N:Nat} {l:List bC} {kf:Bool->aa} (hl:l.length<=maxLen) (hm:∀ x∈l,x.met.length<=maxLen/\x.met.length<N) (hN:l.length<N):um N l a b kf=kf (kx l a b):=by
 unfold um kx
 rw[gf hl hN,gf hl hN,gh hl hm hN]
 cases bG l
 ·rfl
 by_cases ha:bM l a≥0
 rotate_left
 ·rw[ak ha];rfl
 by_cases hb:bM l b≥0
 rotate_left
 ·rw[af ha,ak hb];rfl
 rw[af ha,af hb,(tD ha).1,(tD hb).1,ZY hl hm hN]
 simp only[ab,aB]
 cases bM l a != bM l b
 ·rfl
 unfold acI
 cases (l.getD (bM l a).toNat eD).2.1 != (l.getD (bM l b).toNat eD).2.1<;>rfl
theorem NC {N:Nat} {l:List bC} {kf:Bool->aa} (hl:l.length<=maxLen) (hm:∀ x∈l,x.met.length<=maxLen/\x.met.length<N) (hN:l.length<N):uu N l a b kf=kf (kx l a b):=by
 unfold uu kx
 rw[gg hl hN,gg hl hN,hJ hl hm hN]
 cases bG l
 ·rfl
 by_cases ha:bM l a≥0
 rotate_left
 ·rw[ak ha];rfl
 by_cases hb:bM l b≥0
 rotate_left
 ·rw[af ha,ak hb];rfl
 rw[af ha,af hb,(tD ha).1,(tD hb).1,ZZ hl hm hN]
 simp only[ab,aB]
 cases bM l a != bM l b
 ·rfl
 unfold acI
 cases (l.getD (bM l a).toNat eD).2.1 != (l.getD (bM l b).toNat eD).2.1<;>rfl
def acJ (t:List bC) (j:dJ) (id:Int):Bool:=decide (bM t id≥0)&&((acI t id != j.2.1)&& !BO j.2.2 id)
def mG (t:List bC) (j:dJ) (p:lI):Bool:=acJ t j p.1&&acJ t j p.2
theorem EC {N:Nat} {t:List bC} {j:dJ} {p:lI} {kf:Bool->aa} (hl:t.length<=maxLen) (hN:t.length<N) (h1:j.2.2.length<=maxLen) (h2:j.2.2.length<N):pN N t j p kf=kf (mG t j p):=by
 unfold pN mG acJ
 rw[gf hl hN,gf hl hN]
 by_cases ha:bM t p.1≥0
 rotate_left
 ·rw[ak ha];rfl
 by_cases hb:bM t p.2≥0
 rotate_left
 ·rw[af ha,ak hb];simp
 rw[af ha,af hb,(tD ha).1,(tD hb).1,pS h1 h2]
 simp only[pS h1 h2,ab,aB]
 unfold acI
 cases (t.getD (bM t p.1).toNat eD).2.1 != j.2.1
 ·rfl
 cases (t.getD (bM t p.2).toNat eD).2.1 != j.2.1
 ·simp
 cases BO j.2.2 p.1<;>simp
theorem ED {N:Nat} {t:List bC} {j:dJ} {p:lI} {kf:Bool->aa} (hl:t.length<=maxLen) (hN:t.length<N) (h1:j.2.2.length<=maxLen) (h2:j.2.2.length<N) (h3:2<N):pQ N t j p kf=kf (mG t j p):=by
 have key:∀ (id:Int) (next:aa),(eR N t id (λ(Bs:Int)=>
     bif (decide (Bs<(0:Int))) then
      kf false
     else
      bif (bj Bs (length t)) then
       bif ((getD t (toNat Bs) eD).2.1==j.2.1) then
        kf false
       else
        dQ N j.2.2 id (λ(OO:Bool)=>
         bif OO then
          kf false
         else
          next)
      else none))=bif acJ t j id then next else kf false:=λid next=>by
  rw[gg hl hN]
  unfold acJ
  by_cases ha:bM t id≥0
  rotate_left
  ·rw[ak ha,eZ];rfl
  rw[af ha,fD,(tD ha).1,pK h1 h2]
  simp only[ab,ae,aB]
  unfold acI
  cases hc:(t.getD (bM t id).toNat eD).2.1==j.2.1
  ·simp only[bne,hc,bD,aB,ae]
   cases BO j.2.2 id<;>rfl
  ·simp only[bne,hc,ay,fE,ae,ab]
 unfold pQ;rw[SP (by rw[aT];simp) (by simpa using h3)];simp only[A4,key];unfold mG;cases acJ t j p.1
 ·rfl
 simp;cases acJ t j p.2<;>rfl
theorem Vp {l:List bC} (hl:l.length<=maxLen) (hm:∀ x∈l,x.met.length<=maxLen/\x.met.length<N) (hN:l.length<N):Bf N l kf=kf (bif bG l then foldI (λ_ (x:bC) s=>wrap .i64 (s+x.2.2.1)) l 0 0 else 0):=by
 unfold Bf;rw[Qu hl hN];simp only[gh hl hm hN];cases bG l with
 |false=>cases l<;>rfl
 |true=>simp only[ab];rw[OD (λ_ (x:bC) s=>wrap .i64 (s+x.2.2.1)) (λi x s next h e=>rfl)]
theorem Vq {l:List bC} (hl:l.length<=maxLen) (hm:∀ x∈l,x.met.length<=maxLen/\x.met.length<N) (hN:l.length<N):Bz N l kf=kf (bif bG l then foldI (λ_ (x:bC) s=>wrap .i64 (s+x.2.2.1)) l 0 0 else 0):=by
 unfold Bz;rw[hJ hl hm hN];cases bG l with
 |false=>rfl
 |true=>simp only[ab,ay,ae];rw[QI hl hN,OD (λ_ (x:bC) s=>wrap .i64 (s+x.2.2.1)) (λi x s next h e=>rfl)]
def M5 (l:List bC):Int:=bif bG l then foldI (λ_ (x:bC) s=>wrap .i64 (s+x.2.2.1)) l 0 0 else 0
abbrev xK:=QB
def iK (b:xK):Bool:=pE b.1 1 99&&(pE b.2.1 0 100&&(pE b.2.2 0 100&&(b.2.1 != b.2.2)))
theorem EE {b:xK}:pO N b kf=kf (iK b):=by unfold pO iK;simp only[jy];cases pE b.1 1 99<;>simp;cases pE b.2.1 0 100<;>simp;cases pE b.2.2 0 100<;>simp
theorem EF {b:xK}:pR N b kf=kf (iK b):=by unfold pR iK;simp only[ft];cases pE b.1 1 99<;>simp;cases pE b.2.1 0 100<;>simp;cases pE b.2.2 0 100<;>simp
def sy (r:List lI):List Int:=r.flatMap λp=>[p.1,p.2]
def M6 (l:List bC):List Int:=l.map λx=>x.1
def BS (l:List bC) (r:List lI):Bool:=r.all (λp=>kx l p.1 p.2)&&l.all (λx=>decide ((sy r).count x.1=1))
theorem apn (r:List lI):(sy r).length=2*r.length:=by
 induction r with
 |nil=>rfl
 |cons p r ih=>simp only[sy,List.flatMap_cons,au,an,ao] at*;omega
theorem Pe (h:kx l a b=true):bG l=true/\a∈M6 l/\b∈M6 l/\a≠b:=by
 unfold kx at h;simp only[ai,ax] at h;obtain⟨h0,ha,hb,xB,_⟩:=h;have mem:∀ id:Int,bM l id≥0->id∈M6 l:=λid hid=>by obtain⟨k,hk,_,h1,_⟩:=gZ (p:=λx:bC=>x.1==id) (l:=l) (by unfold bM at hid;omega);exact cv.2 ⟨l[k],aK hk,by simpa using h1⟩
 refine⟨h0,mem a ha,mem b hb,λe=>?_⟩;subst e;simp at xB
theorem aju (h:bG l=true):(M6 l).Nodup:=by
 unfold bG at h;simp only[ai] at h;have hm:=SX h.2.1;have key:∀ (n:Nat) (r:List bC),l.drop n=r->(r.map λx:bC=>x.1).Nodup:=by
  intro n r;induction r generalizing n with
  |nil=>intro _;exact gH
  |cons x r ih=>
  intro hd;have gU:n<l.length:=by have:=bB length hd;simp at this;omega
  rw[aY gU] at hd;injection hd with h1 h2;rw[bq,eJ];refine⟨λhx=>?_,ih (n+1) h2⟩;obtain⟨y,hy,e⟩:=cv.1 hx;rw[←h2] at hy;obtain⟨j,hj,rfl⟩:=bL.1 hy;rw[lT] at e;have hj':n+1+j<l.length:=(by simp at hj;omega);have:=hm n (n+1+j) hj' (by omega);rw[aI _ _ gU,h1] at this;omega
 exact key 0 l rfl
theorem Z0 {N:Nat} {l:List bC} {r:List lI} {kf:Bool->aa} (hl:l.length<=maxLen) (hm:∀ x∈l,x.met.length<=maxLen/\x.met.length<N) (hN:l.length<N) (hr:r.length<=1048576) (hrN:2*r.length<N):HZ N l r kf=kf (BS l r):=by
 have hML:=aT;unfold HZ;rw[Vb (by omega) (by omega)];have key:∀ (q:List lI) (i:Nat) (s:List Int) (du:List Int->aa),r.drop i=q->s.length=2*i->dI (λ(i:Nat) (x:KW) (mg:List Int) (next:List Int->aa)=>
    uu N l x.1 x.2 (λ(Bs:Bool)=>
     bif (!Bs) then
      kf false
     else
      bif (decide ((length mg+length [x.1,x.2])*1<=4398046511104)) then
       next (mg++[x.1,x.2])
      else none)) du q i s=bif q.all (λp=>kx l p.1 p.2) then du (s++sy q) else kf false:=by
  intro q
  induction q with
  |nil=>intro i s du _ _;simp[dI,sy]
  |cons p q ih=>
   intro i s du hd hs
   have gU:i<r.length:=by have:=bB length hd;simp at this;omega
   rw[aY gU] at hd
   injection hd with h1 h2
   simp only[dI]
   rw[NC hl hm hN]
   cases hmm:kx l p.1 p.2 with
   |false=>simp[hmm]
   |true=>
    have AI:decide ((length s+length [p.1,p.2])*1<=4398046511104)=true:=af (by simp;omega)
    simp only[ay,ae]
    rw[AI,ab,ih (i+1) _ du h2 (by simp;omega)]
    simp[hmm,sy]
 refine dW (key r 0 [] _ rfl (by simp)) ?_;unfold BS;cases tZ:r.all (λp=>kx l p.1 p.2) with
 |false=>rfl
 |true=>
 have hlen:(sy r).length<=maxLen/\(sy r).length<N:=by rw[apn];omega
 rw[ab,b7,SO hl hN,om (l:=l) (p:=λ_ x=>decide ((sy r).count x.1=1)) (kf:=kf false) (λi x next h e=>?_) l 0 rfl,Je (p:=λx:bC=>decide ((sy r).count x.1=1))]
 ·simp only[aB];cases l.all λx=>decide ((sy r).count x.1=1)<;>rfl
 rw[Fj hlen.1 hlen.2,afe hlen.1];by_cases h1:(sy r).count x.1=1
 ·simp[h1]
 have:(((sy r).count x.1:Int) != 1)=true:=by rw[qU];omega
 rw[this,ak h1];rfl
theorem agZ :(r.all (λp=>kx l p.1 p.2)&&(decide (sy r).Nodup&&(bG l&&decide ((sy r).length=l.length))))=BS l r:=by
 unfold BS;cases tZ:r.all (λp=>kx l p.1 p.2) with
 |false=>rfl
 |true=>
 rw[aB,aB];rw[aO] at tZ;have adY:∀ x∈sy r,x∈M6 l:=λx hx=>by
  obtain⟨p,hp,hx⟩:=eP.1 hx;obtain⟨_,h1,h2,_⟩:=Pe (tZ p hp);simp at hx;rcases hx with rfl |rfl
  ·exact h1
  exact h2
 cases ht:bG l with
 |true=>
 have:=asZ (aju ht) adY;apply b9.2;rw[aO,aB,ai,ax,ax];rw[show(M6 l).length=l.length by simp[M6]] at this;rw[←this];constructor
 ·intro h x hx;exact af (h x.1 (cv.2 ⟨x,hx,rfl⟩))
 intro h x hx;obtain⟨y,hy,rfl⟩:=cv.1 hx;simpa using h y hy
 |false=>
  -- then there are no pairs,and there are teams
  cases r with
  |cons p r=>have:=(Pe (tZ p (by simp))).1;rw[ht] at this;cases this
  |nil=>
   cases l with
   |nil=>simp[bG,allI] at ht
   |cons x l=>simp[sy]
theorem Z1 {N:Nat} {l:List bC} {r:List lI} (hl:l.length<=maxLen) (hm:∀ x∈l,x.met.length<=maxLen/\x.met.length<N) (hN:l.length<N) (hr:r.length<=1048576) (hrN:2*r.length<N):HS N l r kf=kf (BS l r):=by
 have hML:=aT;unfold HS;rw[U8 (by omega) (by omega)];have key:∀ (q:List lI) (i:Nat) (s:List Int) (du:List Int->aa),r.drop i=q->s.length=2*i->s.Nodup->dI (λ(i:Nat) (x:KW) (aP:List Int) (next:List Int->aa)=>
    um N l x.1 x.2 (λ(x5:Bool)=>
     bif (!x5) then
      kf false
     else
      fm N aP x.1 (λ(xY:Bool)=>
       bif xY then
        kf false
       else
        fm N aP x.2 (λ(aiX:Bool)=>
         bif aiX then
          kf false
         else
          bif (decide ((length aP+length [x.1,x.2])*1<=4398046511104)) then
           next (aP++[x.1,x.2])
          else none)))) du q i s=bif q.all (λp=>kx l p.1 p.2)&&decide (s++sy q).Nodup then du (s++sy q) else kf false:=by
  intro q
  induction q with
  |nil=>intro i s du _ _ hnd;simp[dI,sy,hnd]
  |cons p q ih=>
   intro i s du hd hs hnd
   have gU:i<r.length:=by have:=bB length hd;simp at this;omega
   rw[aY gU] at hd
   injection hd with h1 h2
   simp only[dI]
   rw[NB hl hm hN]
   cases hmm:kx l p.1 p.2 with
   |false=>simp[hmm]
   |true=>
    have xB:=(Pe hmm).2.2.2
    have ZG:s.length<=maxLen/\s.length<N:=by omega
    have aEk:s++sy (p::q)=(s++[p.1,p.2])++sy q:=by simp[sy]
    simp only[ay,ae]
    rw[pS ZG.1 ZG.2]
    cases h1':BO s p.1 with
    |true=>
     have IB:=BP.1 h1'
     have: ¬(s++sy (p::q)).Nodup:=λh=>by
      rw[fN] at h
      exact h.2.2 p.1 IB p.1 (by simp[sy]) rfl
     rw[ak this]
     simp
    |false=>
     rw[ae,pS ZG.1 ZG.2]
     cases h2':BO s p.2 with
     |true=>
      have IB:=BP.1 h2'
      have: ¬(s++sy (p::q)).Nodup:=λh=>by
       rw[fN] at h
       exact h.2.2 p.2 IB p.2 (by simp[sy]) rfl
      rw[ak this]
      simp
     |false=>
      have AI:decide ((length s+length [p.1,p.2])*1<=4398046511104)=true:=af (by simp;omega)
      have n1:p.1∉s:=λh=>by rw[BP.2 h] at h1';cases h1'
      have n2:p.2∉s:=λh=>by rw[BP.2 h] at h2';cases h2'
      have aqd:(s++[p.1,p.2]).Nodup:=by
       rw[fN]
       refine⟨hnd,?_,?_⟩
       ·rw[eJ]
        exact⟨by simpa using xB,by simp⟩
       ·intro a ha b hb e
        subst e
        simp at hb
        rcases hb with rfl |rfl
        ·exact n1 ha
        ·exact n2 ha
      rw[ae,AI,ab,ih (i+1) _ du h2 (by simp;omega) aqd,aEk]
      simp[hmm]
 refine dW (key r 0 [] _ rfl (by simp) gH) ?_;rw[←agZ];rw[b7];cases r.all (λp=>kx l p.1 p.2)
 ·rfl
 cases decide (sy r).Nodup
 ·rfl
 simp only[aB,ab];rw[gh hl hm hN];cases bG l
 ·rfl
 simp only[ab,aB];congr 1;apply b9.2;rw[bY,ax];omega
theorem Jf {l:List dJ} {id:Int} (h:ij l id≥0):bj (ij l id) l.length=true/\(ij l id).toNat<l.length:=by obtain⟨k,hk,e,_⟩:=gZ (p:=λx:dJ=>x.1==id) (l:=l) (by unfold ij at h;omega);have e:ij l id=(k:Int):=e;rw[e];exact⟨aJ hk,by simpa using hk⟩
def Pf (t:List bC) (l:List dJ) (r:List lI) (ids:List Int) (i:Nat):Bool:=decide (ij l (ids.getD i 0)≥0)&&(!BO (ids.take i) (ids.getD i 0)&&mG t (l.getD (ij l (ids.getD i 0)).toNat ib) (r.getD i iH))
def qt (t:List bC) (l:List dJ) (r:List lI) (ids:List Int):Bool:=decide (ids.length=r.length)&&(gM l&&allI (λi _=>Pf t l r ids i) r 0)
theorem Vr {N:Nat} {t:List bC} {l:List dJ} {r:List lI} (ht:t.length<=maxLen) (htN:t.length<N) (hl:l.length<=maxLen) (hm:∀ x∈l,x.2.2.length<=maxLen/\x.2.2.length<N) (hN:l.length<N)
  (hr:r.length<=maxLen) (hrN:r.length<N):Bg N t l r ids kf=kf (qt t l r ids):=by
 unfold Bg qt
 by_cases hlen:ids.length=r.length
 rotate_left
 ·have:((ids.length:Int) != (r.length:Int))=true:=by rw[qU];omega
  rw[this,ak hlen];rfl
 have:((ids.length:Int) != (r.length:Int))=false:=by rw[hlen];exact aZ _
 rw[this,af hlen,ae,BQ hl hm hN]
 cases gM l
 ·rfl
 simp only[ay,ae,aB]
 rw[Qv hr hrN,om (l:=r) (p:=λi _=>Pf t l r ids i) (kf:=kf false) (λi x next h e=>?_) r 0 rfl]
 ·cases allI (λi _=>Pf t l r ids i) r 0<;>rfl
 ·have hi:i<ids.length:=by omega
  have as0:(decide ((0:Int)<=(0:Int))&&decide ((0:Int)<=(i:Int))&&decide ((i:Int)<=(length ids:Int)))=true:=by simp;omega
  rw[aJ hi,ab,as0]
  simp only[aj,ab]
  rw[GH hl hN]
  unfold Pf
  by_cases hf:ij l (ids.getD i 0)≥0
  rotate_left
  ·rw[ak hf,eZ];rfl
  obtain⟨f1,f2⟩:=Jf hf
  have hx:l.getD (ij l (ids.getD i 0)).toNat ib∈l:=by rw[aI _ _ f2];exact aK f2
  obtain⟨m1,m2⟩:=hm _ hx
  rw[af hf,fD,ae]
  have htk:(List.drop (toNat 0) (List.take i ids))=ids.take i:=rfl
  rw[htk,pS (by simp;omega) (by simp;omega),f1]
  cases BO (ids.take i) (ids.getD i 0)
  ·rw[ae,ab,EC ht htN m1 m2]
   have hrx:r.getD i iH=x:=by rw[aI _ _ h,e]
   rw[hrx]
   cases mG t (l.getD (ij l (ids.getD i 0)).toNat ib) x<;>rfl
  ·rfl
theorem Vs {N:Nat} {t:List bC} {l:List dJ} {r:List lI} (ht:t.length<=maxLen) (htN:t.length<N) (hl:l.length<=maxLen) (hm:∀ x∈l,x.2.2.length<=maxLen/\x.2.2.length<N) (hN:l.length<N)
  (hr:r.length<=maxLen) (hrN:r.length<N) (h2N:2<N):By N t l r ids kf=kf (qt t l r ids):=by
 unfold By qt
 rw[BR hl hm hN]
 cases gM l
 ·simp
 simp only[ay,ae,aB]
 by_cases hlen:ids.length=r.length
 rotate_left
 ·have:((ids.length:Int) != (r.length:Int))=true:=by rw[qU];omega
  rw[this,ak hlen];rfl
 have:((ids.length:Int) != (r.length:Int))=false:=by rw[hlen];exact aZ _
 rw[this,af hlen,ae,aB]
 have tZ:allI (λi _=>Pf t l r ids i) r 0=allI (λi _=>Pf t l r ids i) ids 0:=by
  apply b9.2
  rw[uN,uN]
  exact⟨λh j hj=>h j (by omega),λh j hj=>h j (by omega)⟩
 rw[tZ,QH (by omega) (by omega),om (l:=ids) (p:=λi _=>Pf t l r ids i) (kf:=kf false) (λi x next h e=>?_) ids 0 rfl]
 ·cases allI (λi _=>Pf t l r ids i) ids 0<;>rfl
 ·have hi:i<r.length:=by omega
  have as0:(decide ((0:Int)<=(0:Int))&&decide ((0:Int)<=(i:Int))&&decide ((i:Int)<=(length ids:Int)))=true:=by simp;omega
  have hid:ids.getD i 0=x:=by rw[aI _ _ h,e]
  rw[as0]
  simp only[aj,ab]
  rw[uC hl hN]
  unfold Pf
  rw[hid]
  by_cases hf:ij l x≥0
  rotate_left
  ·rw[ak hf,eZ];rfl
  obtain⟨f1,f2⟩:=Jf hf
  have hx:l.getD (ij l x).toNat ib∈l:=by rw[aI _ _ f2];exact aK f2
  obtain⟨m1,m2⟩:=hm _ hx
  rw[af hf,fD,ae]
  have htk:(List.drop (toNat 0) (List.take i ids))=ids.take i:=rfl
  rw[htk,pK (by simp;omega) (by simp;omega),f1,aJ hi]
  cases BO (ids.take i) x
  ·rw[ae,ab,ab,ED ht htN m1 m2 h2N]
   cases mG t (l.getD (ij l x).toNat ib) (r.getD i iH)<;>rfl
  ·rfl
abbrev cK:=QC
structure cZ (c:cK) (N:Nat):Prop where
 tl:c.1.length<=maxLen
 tm:∀ x:bC,x∈c.1->x.met.length<=maxLen/\x.met.length<N
 tN:c.1.length<N
 jl:c.2.1.length<=maxLen
 jm:∀ x∈c.2.1,x.2.2.length<=maxLen/\x.2.2.length<N
 jN:c.2.1.length<N
 rl:c.2.2.1.length<=1048576
 rN:2*c.2.2.1.length<N
 sl:c.2.2.2.1.length<=1048576
 sN:c.2.2.2.1.length<N
 bl:c.2.2.2.2.1.length<=1048576
 bN:c.2.2.2.2.1.length<N
 ml:c.2.2.2.2.2.1.length<=1048576
 mN:c.2.2.2.2.2.1.length<N
 n8:8<N
 tb:c.1.length<=1048700
 tmb:∀ x:bC,x∈c.1->x.met.length<=1048700
 jb:c.2.1.length<=1048700
 jmb:∀ x:dJ,x∈c.2.1->x.2.2.length<=1048700
theorem M7 (c:cK):aQ pG c=aQ (.sl lG) c.1+(aQ (.sl n5) c.2.1+(aQ (.sl dt) c.2.2.1+(aQ (.sl (.int .i64)) c.2.2.2.1+(aQ (.sl vo) c.2.2.2.2.1+aQ (.sl tM) c.2.2.2.2.2.1)))):=rfl
theorem anV {c:cK} (hw:wf pG c) (hb:aQ pG c<=1048576) (hN:2*aQ pG c+8<N):cZ c N:=by
 have hs:=M7 c;have h1:=cC (t:=lG) c.1;have h2:=cC (t:=n5) c.2.1;have h3:=cC (t:=dt) c.2.2.1;have h4:=cC (t:=.int .i64) c.2.2.2.1;have h5:=cC (t:=vo) c.2.2.2.2.1;have h6:=cC (t:=tM) c.2.2.2.2.2.1;have hm:=aT;exact⟨by omega,ajs hw.1 (by omega),by omega,by omega,agY hw.2.1 (by omega),by omega,by omega,by omega,by omega,by omega,by omega,by omega,by omega,by omega,by omega,by omega,λx hx=>by
  have q1:=eA (t:=lG) hx
  have q2:aQ lG x=aQ (.sl (.int .i64)) x.2.2.2.2.2:=by simp[aQ]
  have q3:=cC (t:=.int .i64) x.2.2.2.2.2
  show x.2.2.2.2.2.length<=1048700
  omega,by omega,λx hx=>by
  have q1:=eA (t:=n5) hx
  have q2:aQ n5 x=aQ (.sl (.int .i64)) x.2.2:=by simp[aQ]
  have q3:=cC (t:=.int .i64) x.2.2
  omega⟩
def Jg (b:xK):Bool:=(decide ((b.1:Int)=0))&&((decide ((b.2.1:Int)=0))&&(decide ((b.2.2:Int)=0)))
def Fl (c:cK) (i:Nat) (b:xK):Bool:=Jg b||(iK b&&(b.1==c.2.2.2.1.getD i 0))
def gu (c:cK):Bool:=bG c.1&&(gM c.2.1&&(uB c.2.2.2.2.2.1&&(decide (c.2.2.2.1.length=c.2.2.1.length)&&(decide (c.2.2.2.2.1.length=c.2.2.1.length)&& ((decide (c.2.2.1.length=0)||(BS c.1 c.2.2.1&&qt c.1 c.2.1 c.2.2.1 c.2.2.2.1))&&(allI (Fl c) c.2.2.2.2.1 0&&(pE c.2.2.2.2.2.2 0 1000&&(M5 c.1==c.2.2.2.2.2.2))))))))
theorem as1 {a b:Nat}:((a:Int) != (b:Int))=!decide (a=b):=by apply b9.2;simp;omega
theorem Kt (h:cZ c N) (hs:c.2.2.2.1.length=c.2.2.1.length) (hb:c.2.2.2.2.1.length=c.2.2.1.length):BA N c kf=kf (allI (Fl c) c.2.2.2.2.1 0&&(pE c.2.2.2.2.2.2 0 1000&&(M5 c.1==c.2.2.2.2.2.2))):=by
 have hm:=aT;have:=h.bl;unfold BA;rw[XU (by omega) h.bN,om (l:=c.2.2.2.2.1) (p:=Fl c) (kf:=kf false) (λi b next hi e=>?_) c.2.2.2.2.1 0 rfl]
 ·cases allI (Fl c) c.2.2.2.2.1 0
  ·rfl
  rw[ab,ft];cases pE c.2.2.2.2.2.2 0 1000
  ·rfl
  simp only[ab,aB];rw[Vq h.tl h.tm h.tN];rfl
 rw[EF,aJ (by omega),ab,aj];unfold Fl Jg;cases (decide ((b.1:Int)=0))&&((decide ((b.2.1:Int)=0))&&(decide ((b.2.2:Int)=0)))
 ·simp only[bD,ab,eV];cases iK b
  ·rfl
  cases hc:b.1==c.2.2.2.1.getD i 0<;>simp only[bne,hc,ay,bD,ab,ae,dd,ee]
 rfl
theorem Ku (h:cZ c N) (hs:c.2.2.2.1.length=c.2.2.1.length) (hb:c.2.2.2.2.1.length=c.2.2.1.length):Bh N c kf=kf (allI (Fl c) c.2.2.2.2.1 0):=by
 have hm:=aT;have:=h.bl;unfold Bh;rw[XS (by omega) h.bN,om (l:=c.2.2.2.2.1) (p:=Fl c) (kf:=kf false) (λi b next hi e=>?_) c.2.2.2.2.1 0 rfl]
 ·cases allI (Fl c) c.2.2.2.2.1 0<;>rfl
 rw[EE,aJ (by omega),ab,aj];unfold Fl Jg;cases (decide ((b.1:Int)=0))&&((decide ((b.2.1:Int)=0))&&(decide ((b.2.2:Int)=0)))
 ·simp only[bD,ab,eV];cases iK b
  ·rfl
  cases hc:b.1==c.2.2.2.1.getD i 0<;>simp only[bne,hc,ay,bD,ab,ae,dd,ee]
 rfl
theorem tE {kf:Bool->aa} (h:cZ c N):rB N c kf=kf (gu c):=by
 have hm:=aT
 have hml:=h.ml
 have h8:=h.n8
 have hr:=h.rl
 have hrN:=h.rN
 unfold rB gu
 rw[hJ h.tl h.tm h.tN]
 cases bG c.1
 ·rfl
 simp only[ay,ae,aB]
 rw[BR h.jl h.jm h.jN]
 cases gM c.2.1
 ·rfl
 simp only[ay,ae,aB]
 rw[zz (by omega) h.mN (by omega)]
 cases uB c.2.2.2.2.2.1
 ·rfl
 simp only[ay,ae,aB,as1]
 by_cases hs:c.2.2.2.1.length=c.2.2.1.length
 rotate_left
 ·rw[ak hs];rfl
 by_cases hb:c.2.2.2.2.1.length=c.2.2.1.length
 rotate_left
 ·rw[ak hb,af hs];rfl
 rw[af hs,af hb]
 simp only[ay,ae,aB]
 unfold iY
 by_cases h0:c.2.2.1.length=0
 ·rw[fD]
  simp only[ae]
  rw[Kt h hs hb,af h0]
  rfl
 ·rw[eZ]
  simp only[ab]
  rw[Z0 h.tl h.tm h.tN h.rl h.rN,ak h0]
  cases BS c.1 c.2.2.1
  ·rfl
  simp only[ay,ae,aB,eV]
  rw[Vs h.tl h.tN h.jl h.jm h.jN (by omega) (by omega) (by omega)]
  cases qt c.1 c.2.1 c.2.2.1 c.2.2.2.1
  ·rfl
  simp only[ay,ae,aB]
  exact Kt h hs hb
theorem wJ {c:cK} {kf:Bool->aa} (h:cZ c N):tQ N c kf=kf (gu c):=by
 have hm:=aT
 have hml:=h.ml
 have h8:=h.n8
 have hr:=h.rl
 have hrN:=h.rN
 unfold tQ gu
 rw[gh h.tl h.tm h.tN]
 cases bG c.1
 ·rfl
 simp only[ay,ae,aB]
 rw[BQ h.jl h.jm h.jN]
 cases gM c.2.1
 ·rfl
 simp only[ay,ae,aB]
 rw[zy (by omega) h.mN (by omega)]
 cases uB c.2.2.2.2.2.1
 ·rfl
 simp only[ay,ae,aB,as1]
 by_cases hs:c.2.2.2.1.length=c.2.2.1.length
 rotate_left
 ·rw[ak hs];rfl
 by_cases hb:c.2.2.2.2.1.length=c.2.2.1.length
 rotate_left
 ·rw[ak hb,af hs];rfl
 rw[af hs,af hb]
 simp only[ay,ae,aB,jy]
 cases pE c.2.2.2.2.2.2 0 1000
 ·simp
 simp only[ay,ae,aB]
 rw[Vp h.tl h.tm h.tN]
 show(bif M5 c.1 != c.2.2.2.2.2.2 then kf false else _)=_
 cases ht:M5 c.1==c.2.2.2.2.2.2
 ·simp only[bne,ht,bD,ab,ee]
 simp only[bne,ht,ay,ae,dd]
 by_cases h0:c.2.2.1.length=0
 ·rw[fD,ae,Ku h hs hb,af h0]
  rfl
 ·rw[eZ,ab,Z1 h.tl h.tm h.tN h.rl h.rN,ak h0]
  cases BS c.1 c.2.2.1
  ·rfl
  simp only[ay,ae,aB,eV]
  rw[Vr h.tl h.tN h.jl h.jm h.jN (by omega) (by omega)]
  cases qt c.1 c.2.1 c.2.2.1 c.2.2.2.1
  ·rfl
  simp only[ay,ae,aB]
  exact Ku h hs hb
theorem ame (m:List Int):allI (λi x=>!BO (m.take i) x) m 0=decide m.Nodup:=by
 have key:∀ (r:List Int) (n:Nat),m.drop n=r->(m.take n).Nodup->allI (λi x=>!BO (m.take i) x) r n=decide m.Nodup:=by
  intro r;induction r with
  |nil=>
  intro n hd hn;have:m.length<=n:=by have:=bB length hd;simp at this;omega
  rw[cB this] at hn;simp[allI,hn]
  |cons x r ih=>
  intro n hd hn;have gU:n<m.length:=by have:=bB length hd;simp at this;omega
  rw[aY gU] at hd;injection hd with h1 h2;simp only[allI];cases hh:BO (m.take n) x with
  |true=>have IB:=BP.1 hh;have: ¬m.Nodup:=λh=>(by have e:m=m.take n++m.drop n:=(ep n m).symm;rw[e,fN] at h;exact h.2.2 x IB x (by rw[aY gU,h1];simp) rfl);rw[ak this];rfl
  |false=>have hnm:x∉m.take n:=λh=>(by rw[BP.2 h] at hh;cases hh);rw[bD,aB];refine ih (n+1) h2 ?_;rw[kT gU,h1,fN];refine⟨hn,by simp,?_⟩;intro a ha b hb e;simp at hb;subst hb;subst e;exact hnm ha
 exact key m 0 rfl (by simp)
theorem ajv (m:List Int):(m.all λid=>decide (m.count id<=1))=decide m.Nodup:=by
 apply b9.2;rw[aO,ax,nJ];constructor
 ·intro h x;by_cases hx:x∈m
  ·simpa using h x hx
  rw[List.count_eq_zero_of_not_mem hx];omega
 intro h x hx;simpa using h x
def zA (c:cK):Bool:=c.1.all λx:bC=>decide x.met.Nodup
theorem Vt (h:cZ c N):Bo N c kf=kf (zA c):=by
 unfold Bo;rw[Qz h.tl h.tN,om (l:=c.1) (p:=λ_ (x:bC)=>decide x.met.Nodup) (kf:=kf false) (λi x next hi e=>?_) c.1 0 rfl,Je (p:=λx:bC=>decide x.met.Nodup)]
 ·unfold zA;cases c.1.all λx:bC=>decide x.met.Nodup<;>rfl
 obtain⟨m1,m2⟩:=h.tm x (by rw[←e];exact aK hi);rw[Qy m1 m2,om (l:=x.met) (p:=λi y=>!BO (x.met.take i) y) (kf:=kf false) (λj y next' hj ej=>?_) x.met 0 rfl,ame];have as0:(decide ((0:Int)<=(0:Int))&&decide ((0:Int)<=(j:Int))&&decide ((j:Int)<=(length x.2.2.2.2.2:Int)))=true:=by have:j<x.2.2.2.2.2.length:=hj;simp;omega
 rw[as0,ab,aj];have htk:(List.drop (toNat 0) (List.take j x.2.2.2.2.2))=x.met.take j:=rfl;rw[htk,pS (by rw[aH];omega) (by rw[aH];omega)];cases BO (x.met.take j) y<;>rfl
theorem Vu (h:cZ c N):BF N c kf=kf (zA c):=by
 unfold BF;rw[QO h.tl h.tN,om (l:=c.1) (p:=λ_ (x:bC)=>decide x.met.Nodup) (kf:=kf false) (λi x next hi e=>?_) c.1 0 rfl,Je (p:=λx:bC=>decide x.met.Nodup)]
 ·unfold zA;cases c.1.all λx:bC=>decide x.met.Nodup<;>rfl
 obtain⟨m1,m2⟩:=h.tm x (by rw[←e];exact aK hi);rw[QN m1 m2,om (l:=x.met) (p:=λ_ id=>decide (x.met.count id<=1)) (kf:=kf false) (λj y next' hj ej=>?_) x.met 0 rfl,Je (p:=λid:Int=>decide (x.met.count id<=1)),ajv];rw[Fj m1 m2,afe m1];by_cases hc:x.met.count y<=1
 ·rw[fD,af hc];rfl
 rw[eZ,ak hc];rfl
def amf (c:cK) (i:Nat) (p:lI):Bool:=decide (i<c.2.2.2.1.length)&&(decide (ij c.2.1 (c.2.2.2.1.getD i 0)≥0)&&mG c.1 (c.2.1.getD (ij c.2.1 (c.2.2.2.1.getD i 0)).toNat ib) p)
def zB (c:cK):Bool:=allI (amf c) c.2.2.1 0
theorem QV (h:cZ c N):xa N c kf=kf (zB c):=by
 have hm:=aT;have hr:=h.rl;have hrN:=h.rN;unfold xa zB;rw[NX (by omega) (by omega),om (l:=c.2.2.1) (p:=amf c) (kf:=kf false) (λi p next hi e=>?_) c.2.2.1 0 rfl]
 ·cases allI (amf c) c.2.2.1 0<;>rfl
 ·unfold amf
  by_cases hs:i<c.2.2.2.1.length
  rotate_left
  ·rw[ak hs,eZ];rfl
  rw[af hs,fD,ae,aJ hs,ab,aj,GH h.jl h.jN]
  by_cases hf:ij c.2.1 (c.2.2.2.1.getD i 0)≥0
  rotate_left
  ·rw[ak hf,eZ];rfl
  obtain⟨f1,f2⟩:=Jf hf
  obtain⟨m1,m2⟩:=h.jm (c.2.1.getD (ij c.2.1 (c.2.2.2.1.getD i 0)).toNat ib) (by rw[aI _ _ f2];exact aK f2)
  rw[af hf,fD,ae,f1,ab,EC h.tl h.tN m1 m2]
  cases mG c.1 (c.2.1.getD (ij c.2.1 (c.2.2.2.1.getD i 0)).toNat ib) p<;>rfl
theorem QW (h:cZ c N):xk N c kf=kf (zB c):=by
 have hm:=aT;have hr:=h.rl;have hrN:=h.rN;have h8:=h.n8;unfold xk zB;rw[N3 (by omega) (by omega),om (l:=c.2.2.1) (p:=amf c) (kf:=kf false) (λi p next hi e=>?_) c.2.2.1 0 rfl]
 ·cases allI (amf c) c.2.2.1 0<;>rfl
 ·unfold amf
  by_cases hs:i<c.2.2.2.1.length
  rotate_left
  ·rw[ak hs,eZ];rfl
  rw[af hs,fD,ae,aJ hs,ab,aj,GI h.jl h.jN]
  by_cases hf:ij c.2.1 (c.2.2.2.1.getD i 0)≥0
  rotate_left
  ·rw[ak hf,eZ];rfl
  obtain⟨f1,f2⟩:=Jf hf
  obtain⟨m1,m2⟩:=h.jm (c.2.1.getD (ij c.2.1 (c.2.2.2.1.getD i 0)).toNat ib) (by rw[aI _ _ f2];exact aK f2)
  rw[af hf,fD,ae,f1,ab,ED h.tl h.tN m1 m2 (by omega)]
  cases mG c.1 (c.2.1.getD (ij c.2.1 (c.2.2.2.1.getD i 0)).toNat ib) p<;>rfl
def dG (c:cK):List Int:=lE (λ_ b=>Jg b) (λi _=>(i:Int)) c.2.2.2.2.1 0
theorem yW (h:cZ c N):rv N c kf=kf (dG c):=by
 have hm:=aT;have:=h.bl;unfold rv;rw[U' (by omega) h.bN,mS (l:=c.2.2.2.2.1) (c:=λ_ b=>Jg b) (f:=λi _=>(i:Int)) (λi b s next hi e hs=>?_) c.2.2.2.2.1 0 [] rfl (by simp),b7]
 ·rfl
 have AI:decide ((length s+length [(i:Int)])*1<=4398046511104)=true:=af (by simp;omega);rw[AI,ab];rfl
theorem yX (h:cZ c N):pJ N c kf=kf (dG c):=by
 have hm:=aT;have:=h.bl;unfold pJ;rw[Vc (by omega) h.bN,mS (l:=c.2.2.2.2.1) (c:=λ_ b=>Jg b) (f:=λi _=>(i:Int)) (λi b s next hi e hs=>?_) c.2.2.2.2.1 0 [] rfl (by simp),b7]
 ·rfl
 have AI:decide ((length s+length [(i:Int)])*1<=4398046511104)=true:=af (by simp;omega);rw[AI,ab];rfl
def ND (l:List QL):Nat:=(l.filter λx=>x.2.1==4).length
theorem acK:∀ (l:List QL) (i s:Nat),s+l.length<=maxLen->foldI (λ_ (x:QL) s=>bif x.2.1==4 then wrap .i64 (s+1) else s) l i (s:Int)=((s+ND l:Nat):Int)
 |[],_,_,_=>by simp[foldI,ND]
 |x::r,i,s,h=>by
  have:=aT;simp only[an] at h;simp only[foldI,ND,fO];cases hx:x.2.1==4 with
  |false=>simp only[ae];exact acK r (i+1) s (by omega)
  |true=>simp only[ab,dF,an];rw[iT,show((s:Int)+1)=((s+1:Nat):Int) by omega,acK r (i+1) (s+1) (by omega)];unfold ND;congr 1;omega
theorem as2 (l:List QL):ND l<=l.length:=List.length_filter_le _ _
theorem SY:∀ (l:List QL) (i:Nat) (s:Int),-4000000+l.length<=s->s<=4000000->foldI (λ_ (x:QL) s=>bif x.2.1==4 then wrap .i64 (s - 1) else s) l i s=s - ND l
 |[],_,_,_,_=>by simp[foldI,ND]
 |x::r,i,s,h,h'=>by
  simp only[an] at h;simp only[foldI,ND,fO];cases hx:x.2.1==4 with
  |false=>simp only[ae];exact SY r (i+1) s (by omega) h'
  |true=>simp only[ab,dF,an];rw[iT,SY r (i+1) (s - 1) (by omega) (by omega)];unfold ND;omega
def Jh (c:cK):Bool:=uB c.2.2.2.2.2.1&&(pE c.2.2.2.2.2.2 0 1000&&decide ((ND c.2.2.2.2.2.1:Int)=c.2.2.2.2.2.2+c.2.2.2.2.1.length - (dG c).length))
theorem qD:pE a b c=true↔b<=a/\a<=c:=by unfold pE;simp
theorem Vv (h:cZ c N):Bp N c kf=kf (Jh c):=by
 have hm:=aT;have hml:=h.ml;have hbl:=h.bl;have h8:=h.n8;have hwl:(dG c).length<=c.2.2.2.2.1.length:=rF _ _;unfold Bp;rw[QA (by omega) h.mN,OD (λ_ (x:QL) s=>bif x.2.1==4 then wrap .i64 (s+1) else s) (λi x s next hi e=>by cases x.2.1==4<;>rfl)];have hf:=acK c.2.2.2.2.2.1 0 0 (by omega);rw[aW] at hf;have hf:foldI (λ_ (x:QL) s=>bif x.2.1==4 then wrap .i64 (s+1) else s) c.2.2.2.2.2.1 0 (0:Int)=(ND c.2.2.2.2.2.1:Int):=hf;rw[hf,zy (by omega) h.mN (by omega)];unfold Jh;cases uB c.2.2.2.2.2.1
 ·rfl
 simp only[ab,aB,jy];cases hp:pE c.2.2.2.2.2.2 0 1000
 ·rfl
 obtain⟨p1,p2⟩:=qD.1 hp;simp only[ab,aB];rw[yW h,iT (n:=c.2.2.2.2.2.2+_),iT];rfl
theorem Vw (h:cZ c N):BG N c kf=kf (Jh c):=by
 have hm:=aT;have hml:=h.ml;have hbl:=h.bl;have h8:=h.n8;have hwl:(dG c).length<=c.2.2.2.2.1.length:=rF _ _;unfold BG;rw[yX h];rw[QP (by omega) h.mN,OD (λ_ (x:QL) s=>bif x.2.1==4 then wrap .i64 (s - 1) else s) (λi x s next hi e=>by cases x.2.1==4<;>rfl),zz (by omega) h.mN (by omega)];unfold Jh;cases uB c.2.2.2.2.2.1
 ·rfl
 simp only[ab,aB,ft];cases hp:pE c.2.2.2.2.2.2 0 1000
 ·rfl
 obtain⟨p1,p2⟩:=qD.1 hp;have Xy:=as2 c.2.2.2.2.2.1;simp only[ab,aB];rw[iT (n:=c.2.2.2.2.2.2+_),iT,SY _ _ _ (by omega) (by omega)];congr 1;apply b9.2;rw[bY,ax];omega
def Z2 (g:bC->Int) (l:List bC):Int:=foldI (λ_ (x:bC) s=>wrap .i64 (s+g x)) l 0 0
theorem X7 {g1 g2 g3:bC->Int}:∀ (l:List bC) (i:Nat) (a b c:Int),aiJ (λ(i:Nat) (x:bC) (a b c:Int) (next:Int->Int->Int->aa)=>next (wrap .i64 (a+g1 x)) (wrap .i64 (b+g2 x)) (wrap .i64 (c+g3 x))) k l i a b c= k (foldI (λ_ (x:bC) s=>wrap .i64 (s+g1 x)) l i a) (foldI (λ_ (x:bC) s=>wrap .i64 (s+g2 x)) l i b) (foldI (λ_ (x:bC) s=>wrap .i64 (s+g3 x)) l i c)
 |[],_,_,_,_=>rfl
 |x::r,i,a,b,c=>by simp only[aiJ,foldI];exact X7 r (i+1) _ _ _
def Ji (c:cK):Bool:=bG c.1&&((wrap .i64 (2*Z2 (λx=>x.2.2.1) c.1)==Z2 (λx:bC=>(x.met.length:Int)) c.1)&&(wrap .i64 (2*Z2 (λx=>x.2.2.2.2.1) c.1)==Z2 (λx:bC=>(x.met.length:Int)) c.1))
theorem Vx (h:cZ c N):Bq N c kf=kf (Ji c):=by
 unfold Bq;rw[QD h.tl h.tN];simp only[gh h.tl h.tm h.tN];unfold Ji;cases bG c.1 with
 |false=>cases c.1<;>rfl
 |true=>simp only[ab,aB];refine dW (X7 (g1:=λx:bC=>(x.met.length:Int)) (g2:=λx=>x.2.2.1) (g3:=λx=>x.2.2.2.2.1) c.1 0 0 0 0) ?_;show(bif wrap .i64 (2*Z2 (λx=>x.2.2.1) c.1)==Z2 (λx:bC=>(x.met.length:Int)) c.1 then _ else _)=_;cases wrap .i64 (2*Z2 (λx=>x.2.2.1) c.1)==Z2 (λx:bC=>(x.met.length:Int)) c.1<;>rfl
theorem Vy (h:cZ c N):BH N c kf=kf (Ji c):=by
 unfold BH;rw[QQ h.tl h.tN];simp only[hJ h.tl h.tm h.tN];refine dW (X7 (g1:=λx=>x.2.2.1) (g2:=λx=>x.2.2.2.2.1) (g3:=λx:bC=>(x.met.length:Int)) c.1 0 0 0 0) ?_;unfold Ji;cases bG c.1 with
 |false=>rfl
 |true=>simp only[ab,aB];show(bif wrap .i64 (2*Z2 (λx=>x.2.2.1) c.1)==Z2 (λx:bC=>(x.met.length:Int)) c.1 then _ else _)=_;cases wrap .i64 (2*Z2 (λx=>x.2.2.1) c.1)==Z2 (λx:bC=>(x.met.length:Int)) c.1<;>rfl
theorem ag0 (h:cZ c N):aDY (Br N c) (BI N c):=by
 refine⟨bif !zA c then XL else bif !zB c then yL else bif !Jh c then XM else bif !Ji c then arx else bif !gu c then Ba else HI,λkf=>?_,λkf=>?_⟩
 ·unfold Br;simp only[Vt h,QV h,Vv h,Vx h,wJ h];cases zA c<;>cases zB c<;>cases Jh c<;>cases Ji c<;>cases gu c<;>rfl
 unfold BI;simp only[Vu h,QW h,Vw h,Vy h,tE h];cases zA c<;>cases zB c<;>cases Jh c<;>cases Ji c<;>cases gu c<;>rfl
end Go.Pv.R
namespace Go.Pv
open List Int IntKind
end Go.Pv
namespace Go.Pv.R
open List Int IntKind
theorem aff (c:cK):(dG c).length<=c.2.2.2.2.1.length:=rF _ _
theorem Zr {α:Type}:∀ (l:List α) (i:Nat),lE (λ_ _=>true) (λ_ x=>x) l i=l
 |[],_=>rfl
 |x::r,i=>by simp only[lE,ab];rw[Zr r (i+1)]
theorem Qa {α:Type} {body:Nat->α->List α->(List α->aa)->aa} {du:List α->aa} {l:List α} (hb:∀ (i:Nat) (x:α) (s:List α) (next:List α->aa) (h:i<l.length),l[i]=x->s.length<=i->body i x s next=next (s++[x])):dI body du l 0 []=du l:=by rw[mS (l:=l) (c:=λ_ _=>true) (f:=λ_ x=>x) (λi x s next h e hs=>by rw[hb i x s next h e hs];rfl) l 0 [] rfl (by simp),Zr,b7]
theorem Mg {α:Type} {l:List α} {kf:List α->aa} (hb:b=true): (bif List.isEmpty l then both (kf []) (bif b then kf ([]++l) else none) else bif b then kf ([]++l) else none)=kf l:=by
 subst hb;cases l with
 |nil=>exact Ii _
 |cons x r=>rfl
theorem aaJ {kf:List Int->aa} (hl:l.length<=1048700):agy N l kf=kf l:=by exact Mg (af (by simp only[ao];omega))
theorem aAe {kf:List KW->aa} (hl:l.length<=1048576):S99 N l kf=kf l:=Mg (af (by simp only[ao];omega))
theorem avP {kf:List QB->aa} (hl:l.length<=1048576):avC N l kf=kf l:=Mg (af (by simp only[ao];omega))
theorem ag3 {kf:List QL->aa} (hl:l.length<=1048576):apj N l kf=kf l:=Mg (af (by simp only[ao];omega))
theorem pg {N:Nat} {l:List bC} {kf:List bC->aa} (hl:l.length<=1048700) (hm:∀ x:bC,x∈l->x.met.length<=1048700) (hN:l.length<N):lW N l kf=kf l:=by
 have h0:=aT;unfold lW;rw[U6 (by omega) hN];refine Qa (l:=l) λi x s next h e hs=>?_
 have hx:x∈l:=by rw[←e];exact aK h
 have hxm:x.2.2.2.2.2.length<=1048700:=hm x hx;rw[af (by simp only[ao];omega),af (by simp only[an,ao];omega)];rfl
theorem BT {N:Nat} {l:List dJ} {kf:List dJ->aa} (hl:l.length<=1048700) (hm:∀ x:dJ,x∈l->x.2.2.length<=1048700) (hN:l.length<N):qk N l kf=kf l:=by
 have h0:=aT;unfold qk;rw[Qq (by omega) hN];refine Qa (l:=l) λi x s next h e hs=>?_
 have hx:x∈l:=by rw[←e];exact aK h
 have hxm:x.2.2.length<=1048700:=hm x hx;rw[af (by simp only[ao];omega),af (by simp only[an,ao];omega)];rfl
theorem zC {N:Nat} {l:List bC} {kf:List bC->aa} (hl:l.length<=1048700) (hm:∀ x:bC,x∈l->x.met.length<=1048700) (hN:l.length<N):o7 N l kf=kf l:=by
 have h0:=aT;unfold o7;rw[O9 (by omega) hN];refine Qa (l:=l) λi x s next h e hs=>?_
 have hx:x∈l:=by rw[←e];exact aK h
 have hxm:x.2.2.2.2.2.length<=1048700:=hm x hx;rw[aaJ hxm,af (by simp only[an,ao];omega)];rfl
theorem QX {N:Nat} {l:List dJ} {kf:List dJ->aa} (hl:l.length<=1048700) (hm:∀ x:dJ,x∈l->x.2.2.length<=1048700) (hN:l.length<N):xd N l kf=kf l:=by
 have h0:=aT;unfold xd;rw[NY (by omega) hN];refine Qa (l:=l) λi x s next h e hs=>?_
 have hx:x∈l:=by rw[←e];exact aK h
 have hxm:x.2.2.length<=1048700:=hm x hx;rw[aaJ hxm,af (by simp only[an,ao];omega)];rfl
theorem dS {kf:cK->aa} (h:cZ c N):bX N c kf=kf c:=by have h0:=aT;have h1:=h.rl;have h2:=h.sl;have h3:=h.bl;have h4:=h.ml;unfold bX;rw[pg h.tb h.tmb h.tN,BT h.jb h.jmb h.jN,af (by simp only[ao];omega),af (by simp only[ao];omega),af (by simp only[ao];omega),af (by simp only[ao];omega)];rfl
theorem dm {kf:cK->aa} (h:cZ c N):bU N c kf=kf c:=by have h0:=aT;have h2:=h.sl;unfold bU;rw[zC h.tb h.tmb h.tN,QX h.jb h.jmb h.jN,aAe h.rl,aaJ (by omega),avP h.bl,ag3 h.ml]
abbrev Vz:=QL
def afg (l:List Vz):Int:=(l.getLast?.map λx=>x.2.2.2).getD 0
theorem as3 (h0:l≠[]):afg l=(getD l (l.length - 1) PV).2.2.2:=by
 unfold afg;rw[List.getLast?_eq_getElem?];have h1:l.length - 1<l.length:=by
  cases l with
  |nil=>exact absurd rfl h0
  |cons x r=>simp
 rw[aF,aU h1];rfl
theorem ajw {l:List Vz} {kf:Int->aa} (hl:l.length<=maxLen):(bif ((length l:Int)==(0:Int)) then kf (0:Int) else bif (bj (wrap .i64 ((length l:Int) - (1:Int))) (length l)) then kf (getD l (toNat (wrap .i64 ((length l:Int) - (1:Int)))) PV).2.2.2 else none)=kf (afg l):=by
 have hm:=aT;cases l with
 |nil=>rfl
 |cons x r=>have e1:((length (x::r):Int)==(0:Int))=false:=(by simp only[an];exact bP.2 (by omega));rw[iT (n:=(length (x::r):Int) - 1)];have e2:(length (x::r):Int) - 1=((length (x::r) - 1:Nat):Int):=(by simp only[an];omega);rw[e1,e2,aJ (by simp),as3 (by simp)];simp only[ab,ae,aj]
theorem X8 {l:List Vz} {kf:Int->aa} (hl:l.length<=maxLen):KZ N l kf=kf (afg l):=ajw hl
theorem X9 {l:List Vz} {kf:Int->aa} (hl:l.length<=maxLen):K5 N l kf=kf (afg l):=ajw hl
def anW (l:List Vz) (nC EG:Int):Vz:=((l.length:Int)+1,(nC,(EG,Zp (afg l) ((l.length:Int)+1,(nC,(EG,0))))))
def GJ (l:List Vz) (nC EG:Int):Bool:=uB (l++[anW l nC EG])
def GK (l:List Vz) (nC EG:Int):List Vz:=bif GJ l nC EG then l++[anW l nC EG] else l
theorem afh (h:GJ l nC EG=true):(GK l nC EG).length<=200:=by unfold GK;rw[h];unfold GJ uB at h;simp only[ai,ax] at h;exact h.1
theorem VA {N:Nat} {l:List Vz} {kf:List Vz->Bool->aa} (hl:l.length<=1048576) (hN:l.length+1<N) (h4:4<N):Bd N l nC EG kf=kf (GK l nC EG) (GJ l nC EG):=by have hm:=aT;unfold Bd;rw[X8 (by omega),NA h4,iT (n:=(length l:Int)+1),af (by simp only[ao];omega)];simp only[b7,ab];rw[af (by simp only[an,ao];omega),ab,zy (by simp only[au,an,ao];omega) (by simp only[au,an,ao];omega) h4];show(bif (!GJ l nC EG) then kf l false else kf (l++[anW l nC EG]) true)=_;unfold GK;cases GJ l nC EG<;>rfl
theorem VB {N:Nat} {l:List Vz} {kf:List Vz->Bool->aa} (hl:l.length<=1048576) (hN:l.length+1<N) (h4:4<N):Bw N l nC EG kf=kf (GK l nC EG) (GJ l nC EG):=by have hm:=aT;unfold Bw;rw[X9 (by omega),Mc h4,iT (n:=(length l:Int)+1),ag3 hl,af (by simp only[an,ao];omega),ab,zz (by simp only[au,an,ao];omega) (by simp only[au,an,ao];omega) h4,ag3 hl];show(bif (!GJ l nC EG) then kf l false else kf (l++[anW l nC EG]) true)=_;unfold GK;cases GJ l nC EG<;>rfl
def M8 (c:cK) (l:List Vz):cK:=(c.1,(c.2.1,(c.2.2.1,(c.2.2.2.1,(c.2.2.2.2.1,(l,c.2.2.2.2.2.2))))))
def tV (c out:cK) (nC EG:Int):Bool:=GJ c.2.2.2.2.2.1 nC EG&&(gu c&&gu (M8 out (GK c.2.2.2.2.2.1 nC EG)))
def xq (c out:cK) (nC EG:Int):cK:=bif tV c out nC EG then M8 out (GK c.2.2.2.2.2.1 nC EG) else c
theorem acL (h:cZ c N) (hl:l.length<=200) (hN:200<N):cZ (M8 c l) N:=
 ⟨h.tl,h.tm,h.tN,h.jl,h.jm,h.jN,h.rl,h.rN,h.sl,h.sN,h.bl,h.bN,by show l.length<=_;omega,by show l.length<_;omega,h.n8,h.tb,h.tmb,h.jb,h.jmb⟩
theorem ph {N:Nat} {c out:cK} {kf:cK->Bool->aa} (h:cZ c N) (ho:ok=true->cZ out N) (hN:200<N) (hl:c.2.2.2.2.2.1.length+1<N): jt N c out ok nC EG kf=bif ok then kf (xq c out nC EG) (tV c out nC EG) else kf c false:=by
 have h8:=h.n8;unfold jt;rw[VA h.ml hl (by omega)];simp only[dS h,wJ h];cases ok with
 |false=>rfl
 |true=>
 unfold xq tV;cases hw:GJ c.2.2.2.2.2.1 nC EG with
 |false=>rfl
 |true=>
 cases hc:gu c with
 |false=>rfl
 |true=>have:=wJ (N:=N) (kf:=λr=>bif !r then kf c false else kf (M8 out (GK c.2.2.2.2.2.1 nC EG)) true) (acL (ho rfl) (afh hw) hN);refine this.trans ?_;simp only[aB];cases gu (M8 out (GK c.2.2.2.2.2.1 nC EG))<;>rfl
theorem qV {N:Nat} {kf:cK->Bool->aa} (h:cZ c N) (ho:cZ out N) (he:out.2.2.2.2.2.1=c.2.2.2.2.2.1) (hN:200<N) (hl:c.2.2.2.2.2.1.length+1<N): pH N c out nC EG kf=kf (xq c out nC EG) (tV c out nC EG):=by
 have h8:=h.n8;unfold pH;rw[he,VB h.ml hl (by omega)];simp only[dm h,tE h];unfold xq tV;cases hw:GJ c.2.2.2.2.2.1 nC EG with
 |false=>rfl
 |true=>
 cases hc:gu c with
 |false=>rfl
 |true=>have:=tE (N:=N) (kf:=λr=>bif !r then kf c false else kf (M8 out (GK c.2.2.2.2.2.1 nC EG)) true) (acL ho (afh hw) hN);refine this.trans ?_;simp only[aB];cases gu (M8 out (GK c.2.2.2.2.2.1 nC EG))<;>rfl
theorem Kv (h:gu c=true):c.2.2.2.1.length=c.2.2.1.length/\c.2.2.2.2.1.length=c.2.2.1.length:=by unfold gu at h;simp only[ai,ax] at h;exact⟨h.2.2.2.1,h.2.2.2.2.1⟩
def Pg (c:cK) (p f s:Int):xK:=(c.2.2.2.1.getD p.toNat 0,(f,s))
def avQ (c:cK) (l:List xK):cK:=(c.1,(c.2.1,(c.2.2.1,(c.2.2.2.1,(l,c.2.2.2.2.2)))))
def VC (c:cK) (p f s:Int):Bool:=gu c&&((decide (0<=p)&&decide (p<c.2.2.1.length))&&(Jg (c.2.2.2.2.1.getD p.toNat uJ)&&iK (Pg c p f s)))
def RH (c:cK) (p f s:Int):cK:=avQ c (c.2.2.2.2.1.set p.toNat (Pg c p f s))
theorem ajx (h:cZ c N) (p f s:Int):cZ (RH c p f s) N:=
 ⟨h.tl,h.tm,h.tN,h.jl,h.jm,h.jN,h.rl,h.rN,h.sl,h.sN,by show(List.set _ _ _).length<=_;rw[br];exact h.bl,by show(List.set _ _ _).length<_;rw[br];exact h.bN,h.ml,h.mN,h.n8,h.tb,h.tmb,h.jb,h.jmb⟩
theorem SZ {N:Nat} {kf:cK->Bool->aa} (h:cZ c N) (hN:200<N) (hl:c.2.2.2.2.2.1.length+1<N): yN N c p f s kf=bif VC c p f s then kf (xq c (RH c p f s) 4 (Pg c p f s).1) (tV c (RH c p f s) 4 (Pg c p f s).1) else kf c false:=by
 have hm:=aT;have hr:=h.rl;unfold yN;rw[dS h,wJ h];unfold VC;cases hc:gu c with
 |false=>rfl
 |true=>
  obtain⟨l1,l2⟩:=Kv hc
  simp only[ay,ae,aB]
  rw[iT (n:=(length c.2.2.1:Int) - 1),jy]
  by_cases hp:0<=p/\p<c.2.2.1.length
  rotate_left
  ·have e1:pE p 0 ((length c.2.2.1:Int) - 1)=false:=by
    cases hx:pE p 0 ((length c.2.2.1:Int) - 1) with
    |false=>rfl
    |true=>rw[qD] at hx;exact absurd ⟨hx.1,by omega⟩ hp
   have e2:(decide (0<=p)&&decide (p<c.2.2.1.length))=false:=by
    cases hx:(decide (0<=p)&&decide (p<c.2.2.1.length)) with
    |false=>rfl
    |true=>simp only[ai,ax] at hx;exact absurd hx hp
   rw[e1,e2]
   rfl
  ·obtain⟨hp0,hp1⟩:=hp
   obtain⟨i,rfl⟩:∃ i:Nat,p=(i:Int):=⟨p.toNat,by omega⟩
   have e1:pE (i:Int) 0 ((length c.2.2.1:Int) - 1)=true:=qD.2 ⟨by omega,by omega⟩
   have e2:(decide (0<=(i:Int))&&decide ((i:Int)<c.2.2.1.length))=true:=by simp only[ai,ax];omega
   rw[e1,e2]
   simp only[ay,ae,aB,aj,br]
   rw[aJ (show i<c.2.2.2.2.1.length by omega),aJ (show i<c.2.2.2.1.length by omega)]
   simp only[ab]
   have e3:getD (List.set c.2.2.2.2.1 i (getD c.2.2.2.1 i (0:Int),(f,s))) i uJ=(getD c.2.2.2.1 i (0:Int),(f,s)):=by
    rw[aF,mW (by omega)]
    rfl
   rw[e3,EE]
   show(bif !Jg (getD c.2.2.2.2.1 i uJ) then kf c false else _)=_
   cases Jg (getD c.2.2.2.2.1 i uJ) with
   |false=>rfl
   |true=>
    simp only[ay,ae,aB]
    exact ph (out:=RH c (i:Int) f s) h (λ_=>ajx h _ _ _) hN hl
theorem S0 {N:Nat} {kf:cK->Bool->aa} (h:cZ c N) (hN:200<N) (hl:c.2.2.2.2.2.1.length+1<N): uU N c p f s kf=bif VC c p f s then kf (xq c (RH c p f s) 4 (Pg c p f s).1) (tV c (RH c p f s) 4 (Pg c p f s).1) else kf c false:=by
 have hm:=aT;have hr:=h.rl;unfold uU;rw[dm h,tE h];unfold VC;cases hc:gu c with
 |false=>rfl
 |true=>
  obtain⟨l1,l2⟩:=Kv hc
  simp only[ay,ae,aB]
  by_cases hp:0<=p/\p<c.2.2.1.length
  rotate_left
  ·have e2:(decide (0<=p)&&decide (p<c.2.2.1.length))=false:=by
    cases hx:(decide (0<=p)&&decide (p<c.2.2.1.length)) with
    |false=>rfl
    |true=>simp only[ai,ax] at hx;exact absurd hx hp
   rw[e2]
   by_cases h0:p<0
   ·rw[af h0];rfl
   ·rw[ak h0,af (show p≥(length c.2.2.1:Int) by omega)];rfl
  ·obtain⟨hp0,hp1⟩:=hp
   obtain⟨i,rfl⟩:∃ i:Nat,p=(i:Int):=⟨p.toNat,by omega⟩
   have e2:(decide (0<=(i:Int))&&decide ((i:Int)<c.2.2.1.length))=true:=by simp only[ai,ax];omega
   rw[ak (show ¬(i:Int)<0 by omega),ak (show ¬(i:Int)≥(length c.2.2.1:Int) by omega),e2]
   simp only[ae,aB,aj]
   rw[aJ (show i<c.2.2.2.2.1.length by omega),aJ (show i<c.2.2.2.1.length by omega),EF]
   simp only[ab]
   show(bif !Jg (getD c.2.2.2.2.1 i uJ) then kf c false else _)=_
   cases Jg (getD c.2.2.2.2.1 i uJ) with
   |false=>rfl
   |true=>
    simp only[ay,ae,aB]
    show(bif !iK (Pg c (i:Int) f s) then kf c false else _)=_
    cases iK (Pg c (i:Int) f s) with
    |false=>rfl
    |true=>exact qV (out:=RH c (i:Int) f s) h (ajx h _ _ _) rfl hN hl
end Go.Pv.R
namespace Go.Pv
open List Int IntKind
abbrev Asc (l:List Int):Prop:=l.Pairwise (· < ·)
theorem anX:∀ {a b:List Int},Asc a->Asc b->(∀ x,x∈a↔x∈b)->a=b
 |[],[],_,_,_=>rfl
 |[],y::b,_,_,h=>by have:=(h y).2 (by simp);simp at this
 |x::a,[],_,_,h=>by have:=(h x).1 (by simp);simp at this
 |x::a,y::b,ha,hb,h=>by
  rw[Asc,bZ] at ha hb;have hxy:x=y:=by
   have h1:=(h x).1 (by simp);have h2:=(h y).2 (by simp);rcases aV.1 h1 with h1 |h1
   ·exact h1
   rcases aV.1 h2 with h2 |h2
   ·exact h2.symm
   have:=hb.1 x h1;have:=ha.1 y h2;omega
  subst hxy;congr 1;refine anX ha.2 hb.2 λz=>?_;constructor
  ·intro hz;rcases aV.1 ((h z).1 (by simp[hz])) with e |e
   ·subst e;have:=ha.1 z hz;omega
   exact e
  intro hz;rcases aV.1 ((h z).2 (by simp[hz])) with e |e
  ·subst e;have:=hb.1 z hz;omega
  exact e
def GL:List Int->Int->List Int
 |[],n=>[n]
 |x::r,n=>bif decide (x<n) then x::GL r n else bif x==n then x::r else n::x::r
theorem VE:∀ (l:List Int) (n x:Int),x∈GL l n↔x=n∨x∈l
 |[],n,x=>by simp[GL]
 |y::r,n,x=>by
  simp only[GL];by_cases h:y<n
  ·rw[af h,ab,aV,VE r n x,aV];constructor
   ·rintro(h |h |h)<;>simp[h]
   rintro(h |h |h)<;>simp[h]
  rw[ak h,ae];by_cases e:y=n
  ·subst e;simp
  rw[bP.2 e,ae];simp
theorem Ph:∀ {l:List Int} {n:Int},Asc l->Asc (GL l n)
 |[],n,_=>by simp[GL,Asc]
 |y::r,n,h=>by
  rw[Asc,bZ] at h;simp only[GL];by_cases hy:y<n
  ·rw[af hy,ab,Asc,bZ];refine⟨λz hz=>?_,Ph h.2⟩;rcases(VE r n z).1 hz with e |e
   ·omega
   exact h.1 z e
  rw[ak hy,ae];by_cases e:y=n
  ·subst e;simp only[ld,ab,Asc,bZ];exact h
  rw[bP.2 e,ae,Asc,bZ,bZ];refine⟨λz hz=>?_,h⟩;rcases aV.1 hz with e2 |e2
  ·omega
  have:=h.1 z e2;omega
theorem VF:∀ (l:List Int) (n:Int),(GL l n).length<=l.length+1
 |[],n=>by simp[GL]
 |y::r,n=>by
  simp only[GL];have:=VF r n;cases decide (y<n) with
  |true=>simp only[ab,an];omega
  |false=>cases y==n<;>simp
theorem apo (l:List Int) (x:Int):x∈zT l↔x∈l:=(MR l).mem_iff
theorem as4 (l:List Int):(zT l).Pairwise (·<=·):=XH l
theorem EH:∀ (r:List Int) (x:Int),(x::r).Pairwise (·<=·)->Asc (x::mL x r)/\∀ z,z∈x::mL x r↔z∈x::r
 |[],x,_=>by simp[mL,Asc]
 |y::r,x,h=>by
  rw[bZ] at h;simp only[mL];by_cases e:y=x
  ·subst e;simp only[ld,ab];obtain⟨h1,h2⟩:=EH r y h.2;refine⟨h1,λz=>(h2 z).trans ?_⟩;simp
  rw[bP.2 e,ae];obtain⟨h1,h2⟩:=EH r y h.2;have gU:x<y:=(by have:=h.1 y (by simp);omega);refine⟨?_,λz=>?_⟩
  ·rw[Asc,bZ];refine⟨λz hz=>?_,h1⟩;have h3:Asc (y::mL y r):=h1;rw[Asc,bZ] at h3;rcases aV.1 hz with e2 |e2
   ·omega
   have:=h3.1 z e2;omega
  rw[aV,h2 z];simp only[aV]
theorem aea (l:List Int) (h:l.Pairwise (·<=·)):Asc (po l)/\∀ z,z∈po l↔z∈l:=by
 cases l with
 |nil=>simp[po,Asc]
 |cons x r=>exact EH r x h
end Go.Pv
namespace Go.Pv.R
open List Int IntKind
def uW:List Int->Int->Nat
 |[],_=>0
 |x::r,n=>bif decide (x<n) then uW r n+1 else 0
theorem anY:∀ (l:List Int) (n:Int),uW l n<=l.length
 |[],_=>aR _
 |x::r,n=>by simp only[uW];have:=anY r n;cases decide (x<n)<;>simp<;>omega
theorem ajy:∀ (l:List Int) (n:Int),GL l n=bif decide (uW l n<l.length)&&(l.getD (uW l n) 0==n) then l else l.take (uW l n)++[n]++l.drop (uW l n)
 |[],n=>rfl
 |x::r,n=>by
  by_cases h:x<n
  ·have hc:uW (x::r) n=uW r n+1:=(by simp only[uW];rw[af h];rfl);have hp:GL (x::r) n=x::GL r n:=(by simp only[GL];rw[af h];rfl);rw[hc,hp,ajy r n];simp only[an,List.getD_cons_succ,ob,List.drop_succ_cons];rw[show decide (uW r n+1<r.length+1)=decide (uW r n<r.length) from iq.2 (by omega)];cases (decide (uW r n<r.length)&&(r.getD (uW r n) 0==n))<;>simp
  have hc:uW (x::r) n=0:=(by simp only[uW];rw[ak h];rfl);have hp:GL (x::r) n=bif x==n then x::r else n::x::r:=(by simp only[GL];rw[ak h];rfl);rw[hc,hp];simp only[an,List.getD_cons_zero,tX,dX];rw[af (show 0<r.length+1 by omega),aB];cases x==n<;>simp
theorem anZ {k:Int->aa}:∀ (r:List Int) (i m:Nat),i+r.length=m->A4 (λ(i:Nat) (x:Int) (next:aa)=>bif (decide (x<n)) then next else k (i:Int)) (k (m:Int)) r i=k ((i+uW r n:Nat):Int)
 |[],i,m,h=>by simp only[A4,uW];rw[←h];rfl
 |x::r,i,m,h=>by
  simp only[A4,uW];cases decide (x<n) with
  |true=>simp only[ab];rw[anZ r (i+1) m (by simp only[an] at h;omega)];congr 1;omega
  |false=>simp only[ae,dZ]
theorem Pj (hl:l.length<=1048576) (hN:l.length<N):iV N l n kf=kf (GL l n):=by
 have hm:=aT;unfold iV;rw[XT (by omega) hN];have hc:=anY l n;have h2:(decide ((length ([]:List Int)+length l)*1<=4398046511104))=true:=af (by simp only[ao];omega);have hj:td l n kf (uW l n:Int)=kf (l.take (uW l n)++[n]++l.drop (uW l n)):=by
  unfold td;have d1:(decide ((0:Int)<=(0:Int))&&decide ((0:Int)<=(uW l n:Int))&&decide ((uW l n:Int)<=(length l:Int)))=true:=by simp;omega
  have d2:(decide ((0:Int)<=(uW l n:Int))&&decide ((uW l n:Int)<=(length l:Int))&&decide ((length l:Int)<=(length l:Int)))=true:=(by simp;omega);rw[d1,d2];have e1:List.drop (toNat 0) (List.take (toNat (uW l n:Int)) l)=l.take (uW l n):=(by simp);have e2:List.drop (toNat (uW l n:Int)) (List.take (toNat (length l:Int)) l)=l.drop (uW l n):=(by simp);rw[e1,e2];have l1:(l.take (uW l n)).length=uW l n:=(by rw[aH];omega);have l2:(l.drop (uW l n)).length=l.length - uW l n:=a8;rw[af (by simp only[ao];omega),af (by simp only[au,an,ao];omega),af (by simp only[au,an,ao];omega)];simp only[ab,b7]
 have:=anZ (n:=n) (k:=λ(JY:Int)=>
  bif (decide (JY<(length l:Int))) then
   bif (bj JY (length l)) then
    bif ((getD l (toNat JY) (0:Int))==n) then
     bif (decide ((length ([]:az)+length l)*1<=4398046511104)) then
      kf (([]:az)++l)
     else none
    else
     td l n kf JY
   else none
  else
   td l n kf JY) l 0 l.length (by omega)
 refine this.trans ?_;simp only[aW];rw[hj,ajy];by_cases gU:uW l n<l.length
 ·rw[af (show(uW l n:Int)<(length l:Int) by omega),af gU,aJ gU,aj,h2];simp only[ab,aB,b7];cases getD l (uW l n) 0==n<;>rfl
 rw[ak (show ¬(uW l n:Int)<(length l:Int) by omega),ak gU];rfl
theorem avR (hl:l.length<=1048576):al5 N l kf=kf (zT l):=by unfold al5;have:Nat.blt (length l) 4611686018427387904=true:=uc (by omega);rw[this];rfl
theorem avS :apm N l kf=kf (po l):=rfl
theorem Mh {α:Type} (l:List α) (k:Nat):List.drop (toNat 0) (List.take k l)=l.take k/\List.drop k (List.take (length l) l)=l.drop k:=by simp
def Ya (c:cK) (l:List bC):cK:=(l,c.2)
def an0 (c:cK) (k:Nat):cK:=Ya c (c.1.take k++c.1.drop (k+1))
theorem VG (h:cZ c N) (hl:l.length<=1048700) (hN:l.length<N) (hm:∀ x:bC,x∈l->x.met.length<=1048700/\x.met.length<N):cZ (Ya c l) N:=by have h0:=aT;exact⟨by show l.length<=_;omega,λx hx=>⟨by have:=(hm x hx).1;omega,(hm x hx).2⟩,hN,h.jl,h.jm,h.jN,h.rl,h.rN,h.sl,h.sN,h.bl,h.bN,h.ml,h.mN,h.n8,hl,λx hx=>(hm x hx).1,h.jb,h.jmb⟩
theorem ajz (h:cZ c N) (k:Nat):cZ (an0 c k) N:=by
 have h1:=h.tb;have h2:=h.tN;have hl:(c.1.take k++c.1.drop (k+1)).length<=c.1.length:=by rw[au,aH,a8];omega
 refine VG h (by omega) (by omega) λx hx=>?_;have N9:x∈c.1:=by
  rcases bd.1 hx with hx |hx
  ·exact fW hx
  exact dV hx
 exact⟨h.tmb x N9,(h.tm x N9).2⟩
def Pl (c:cK) (id:Int):Bool:=decide (0<=bM c.1 id)&&(decide (c.2.2.1.length=0)&&decide ((c.1.getD (bM c.1 id).toNat eD).2.2.2.2.2.length=0))
def M9 (c:cK) (id:Int):cK:=an0 c (bM c.1 id).toNat
theorem VH {N:Nat} {id:Int} {kf:cK->Bool->aa} (h:cZ c N) (hN:200<N) (hl:c.2.2.2.2.2.1.length+1<N): Bn N c id kf=bif Pl c id then kf (xq c (M9 c id) 6 id) (tV c (M9 c id) 6 id) else kf c false:=by
 have hm:=aT;have htb:=h.tb;unfold Bn;rw[dS h,gf h.tl h.tN];unfold l4 Pl M9;by_cases hf:bM c.1 id<0
 ·rw[af hf,ak (show ¬ 0<=bM c.1 id by omega)];rfl
 ·obtain⟨k,hk,he,_⟩:=gZ (p:=λx:bC=>x.1==id) (l:=c.1) hf
  have he':bM c.1 id=(k:Int):=he
  rw[he',ak (show ¬(k:Int)<0 by omega),af (show 0<=(k:Int) by omega)]
  simp only[ae,aB,aj]
  by_cases hr:c.2.2.1.length=0
  rotate_left
  ·rw[af (show(length c.2.2.1:Int)>0 by omega),ak hr]
   rfl
  ·rw[ak (show ¬(length c.2.2.1:Int)>0 by omega),af hr,aJ hk]
   simp only[ae,ab,aB]
   by_cases as5:(c.1.getD k eD).2.2.2.2.2.length=0
   rotate_left
   ·rw[af (show(length (c.1.getD k eD).2.2.2.2.2:Int)>0 by omega),ak as5]
    rfl
   ·rw[ak (show ¬(length (c.1.getD k eD).2.2.2.2.2:Int)>0 by omega),af as5,iT (n:=(k:Int)+1)]
    have d1:(decide ((0:Int)<=(0:Int))&&true&&decide ((k:Int)<=(length c.1:Int)))=true:=by simp;omega
    have d2:(decide ((0:Int)<=(k:Int)+1)&&decide ((k:Int)+1<=(length c.1:Int))&&decide ((length c.1:Int)<=(length c.1:Int)))=true:=by simp;omega
    have e3:toNat ((k:Int)+1)=k+1:=by omega
    rw[d1,d2,e3,(Mh c.1 k).1,(Mh c.1 (k+1)).2]
    simp only[ab,ae]
    have l1:(c.1.take k).length<=c.1.length:=by rw[aH];omega
    have l2:(c.1.drop (k+1)).length<=c.1.length:=by rw[a8];omega
    rw[pg (by omega) (λx hx=>h.tmb x (fW hx)) (by have:=h.tN;omega),pg (by omega) (λx hx=>h.tmb x (dV hx)) (by have:=h.tN;omega),eZ,ab]
    exact ph (out:=an0 c k) h (λ_=>ajz h k) hN hl
theorem VI {N:Nat} {id:Int} {kf:cK->Bool->aa} (h:cZ c N) (hN:200<N) (hl:c.2.2.2.2.2.1.length+1<N): wD N c id kf=bif Pl c id then kf (xq c (M9 c id) 6 id) (tV c (M9 c id) 6 id) else kf c false:=by
 have hm:=aT;have htb:=h.tb;unfold wD;rw[dm h,gg h.tl h.tN];unfold iY Pl M9;by_cases hf:bM c.1 id<0
 ·rw[af hf,ak (show ¬ 0<=bM c.1 id by omega)];rfl
 ·obtain⟨k,hk,he,_⟩:=gZ (p:=λx:bC=>x.1==id) (l:=c.1) hf
  have he':bM c.1 id=(k:Int):=he
  rw[he',ak (show ¬(k:Int)<0 by omega),af (show 0<=(k:Int) by omega),aj,aJ hk]
  simp only[ae,ab,aB]
  by_cases as5:(c.1.getD k eD).2.2.2.2.2.length=0
  rotate_left
  ·rw[af (show(length (c.1.getD k eD).2.2.2.2.2:Int)>0 by omega),ak as5,ee]
   rfl
  ·rw[ak (show ¬(length (c.1.getD k eD).2.2.2.2.2:Int)>0 by omega),af as5]
   by_cases hr:c.2.2.1.length=0
   rotate_left
   ·rw[af (show(length c.2.2.1:Int)>0 by omega),ak hr]
    rfl
   ·rw[ak (show ¬(length c.2.2.1:Int)>0 by omega),af hr,iT (n:=(k:Int)+1)]
    simp only[ae,dd,ab]
    unfold azK
    have d1:(decide ((0:Int)<=(k:Int))&&(decide ((k:Int)<=(k:Int)+1)&&decide ((k:Int)+1<=(length c.1:Int))))=true:=by simp;omega
    have e3:toNat ((k:Int)+1)=k+1:=by omega
    rw[d1,e3,aj,ab]
    exact qV (out:=an0 c k) h (ajz h k) rfl hN hl
theorem as6 {α:Type} {l:List α} {z:α} {g:α->Int} (h:∀ (i:Nat) (hi:i<l.length),0<i->g (l.getD (i - 1) z)<g l[i]):∀ (j i:Nat) (hi:i<l.length),j<i->g (l.getD j z)<g l[i]:=by
 intro j i;induction i with
 |zero=>intro _ hj;omega
 |succ i ih=>
 intro hi hj;have h1:=h (i+1) hi (by omega);rw[pF] at h1;by_cases e:j=i
 ·subst e;exact h1
 have h2:=ih (by omega) (by omega);rw[aI _ _ (by omega)] at h1;omega
theorem as7 {α:Type} {xs:List α} {x z:α} {g:α->Int} (hk:k<=xs.length) (hm:∀ (j i:Nat) (hi:i<(xs.take k++[x]++xs.drop k).length),j<i->g ((xs.take k++[x]++xs.drop k).getD j z)<g (xs.take k++[x]++xs.drop k)[i]): ∀ (i:Nat) (hi:i<xs.length),g xs[i]≠g x:=by
 intro i hi he;have hl:(xs.take k++[x]++xs.drop k).length=xs.length+1:=by simp only[au,aH,a8,an,ao];omega
 have gU:(xs.take k).length=k:=by rw[aH];omega
 have hkx:∀ (h:k<(xs.take k++[x]++xs.drop k).length),(xs.take k++[x]++xs.drop k)[k]=x:=λh=>by rw[cN (by rw[au,gU];simp),dN (by omega)];simp[gU]
 by_cases hik:i<k
 ·have h1:=hm i k (by omega) hik;rw[aI _ _ (by omega),hkx,cN (by rw[au,gU];simp;omega),cN (by omega),gJ] at h1;omega
 have h1:=hm k (i+1) (by omega) (by omega);rw[aI _ _ (by omega),hkx,dN (by rw[au,gU];simp;omega),lT] at h1;have e2:k+(i+1 - (xs.take k++[x]).length)=i:=by rw[au,gU];simp;omega
 simp only[e2] at h1;omega
theorem Pm {α:Type} {p:α->Bool} {k:Int->aa}:∀ (r:List α) (i m:Nat),i+r.length=m->A4 (λ(i:Nat) (x:α) (next:aa)=>bif p x then next else k (i:Int)) (k (m:Int)) r i=k ((i+(r.takeWhile p).length:Nat):Int)
 |[],i,m,h=>by simp only[ao,dZ] at h;subst h;rfl
 |x::r,i,m,h=>by
  simp only[an] at h;simp only[A4,List.takeWhile_cons];cases hp:p x with
  |false=>rfl
  |true=>simp only[ab,dF,an];rw[Pm r (i+1) m (by omega)];congr 2;omega
theorem RI {α:Type} (p:α->Bool) (l:List α):(l.takeWhile p).length<=l.length:=(List.takeWhile_sublist p).length_le
theorem aDb {α:Type} {xs:List α} {x:α} (hk:k<=xs.length) (hl:xs.length<=1048700) (hs:s<=8):(decide ((0:Int)<=(k:Int))&&(decide ((k:Int)<=(length xs:Int))&&(Nat.blt 0 (length [x])&&Nat.ble ((length xs+length [x])*s) 4398046511104)))=true:=by have h1:(length xs+length [x])*s<=1048701*8:=Nat.mul_le_mul (by simp;omega) hs;rw[eZ,eZ];simp only[aB,ai];exact⟨rfl,by rw[qQ];omega⟩
def avT (id ja:Int):bC:=(id,(ja,(0,(0,(0,[])))))
def M' (l:List bC) (id:Int):Nat:=(l.takeWhile λx=>decide (x.1<id)).length
def Kw (c:cK) (id ja:Int):cK:=Ya c (c.1.take (M' c.1 id)++[avT id ja]++c.1.drop (M' c.1 id))
theorem aaK (l:List bC) (id:Int):M' l id<=l.length:=RI _ _
theorem as8 {α:Type} {xs:List α} {x y:α} (h:y∈xs.take k++[x]++xs.drop k):y∈xs∨y=x:=by
 rcases bd.1 h with h |h
 ·rcases bd.1 h with h |h
  ·exact .inl (fW h)
  exact .inr (bu.1 h)
 exact .inl (dV h)
theorem as9 {α:Type} {xs:List α} {x:α} (hk:k<=xs.length):(xs.take k++[x]++xs.drop k).length=xs.length+1:=by simp only[au,aH,a8,an,ao];omega
theorem ajA {c:cK} {N:Nat} {id ja:Int} (h:cZ c N) (hb:c.1.length<=1048576) (hN:c.1.length+1<N):cZ (Kw c id ja) N:=by
 have hl:=as9 (x:=avT id ja) (aaK c.1 id);have h8:=h.n8;refine VG h (by omega) (by omega) λx hx=>?_;rcases as8 hx with hx |rfl
 ·exact⟨h.tmb x hx,(h.tm x hx).2⟩
 exact⟨by show(0:Nat)<=_;omega,by show(0:Nat)<_;omega⟩
theorem as' {c:cK} {id ja:Int} (h:bG (Kw c id ja).1=true):bM c.1 id<0:=by
 unfold bG at h;simp only[ai] at h;have hm:=SX h.2.1;have xB:=as7 (xs:=c.1) (x:=avT id ja) (z:=eD) (g:=λx:bC=>x.1) (aaK c.1 id) hm;by_cases hf:bM c.1 id<0
 ·exact hf
 obtain⟨k,hk,_,h1,_⟩:=gZ (p:=λx:bC=>x.1==id) (l:=c.1) hf;exact absurd (bY.1 h1) (xB k hk)
theorem avU {id ja:Int} (hf: ¬bM c.1 id<0):tV c (Kw c id ja) 1 id=false:=by
 cases hd:tV c (Kw c id ja) 1 id with
 |false=>rfl
 |true=>unfold tV gu at hd;simp only[ai] at hd;exact absurd (as' hd.2.2.1) hf
theorem QY {N:Nat} {c z:cK} {id ja:Int} (h:cZ c N):ll id ja c z c N k (0:Int)=k ((M' c.1 id:Nat):Int):=by rw[SK h.tl h.tN,Pm c.1 0 c.1.length (by omega),aW];rfl
theorem Yb {N:Nat} {id ja:Int} {kf:cK->Bool->aa} (h:cZ c N) (hb:c.1.length<=1048576) (hN1:c.1.length+1<N) (hN:200<N) (hl:c.2.2.2.2.2.1.length+1<N): E8 N c id ja kf=bif decide (c.2.2.1.length=0) then kf (xq c (Kw c id ja) 1 id) (tV c (Kw c id ja) 1 id) else kf c false:=by
 have hm:=aT;have hk:=aaK c.1 id;unfold E8;rw[dS h,QY h];show(bif (decide ((0:Int)<=(0:Int))&&decide ((0:Int)<=((M' c.1 id:Nat):Int))&&decide (((M' c.1 id:Nat):Int)<=(length c.1:Int))) then _ else _)=_;have d1:(decide ((0:Int)<=(0:Int))&&decide ((0:Int)<=((M' c.1 id:Nat):Int))&&decide (((M' c.1 id:Nat):Int)<=(length c.1:Int)))=true:=by simp;omega
 have d2:(decide ((0:Int)<=((M' c.1 id:Nat):Int))&&decide (((M' c.1 id:Nat):Int)<=(length c.1:Int))&&decide ((length c.1:Int)<=(length c.1:Int)))=true:=by simp;omega
 have l1:(c.1.take (M' c.1 id)).length<=c.1.length:=by rw[aH];omega
 have l2:(c.1.drop (M' c.1 id)).length<=c.1.length:=by rw[a8];omega
 rw[d1,ab,aj,(Mh c.1 (M' c.1 id)).1,pg (by omega) (λx hx=>h.tmb x (fW hx)) (by omega),af (by simp only[an,ao];omega),ab];show(bif (decide ((0:Int)<=((M' c.1 id:Nat):Int))&&decide (((M' c.1 id:Nat):Int)<=(length c.1:Int))&&decide ((length c.1:Int)<=(length c.1:Int))) then _ else _)=_;rw[d2,ab,aj];show lW N (List.drop (M' c.1 id) (List.take (length c.1) c.1)) _=_;rw[(Mh c.1 (M' c.1 id)).2,pg (by omega) (λx hx=>h.tmb x (dV hx)) (by omega),af (by simp only[au,an,ao];omega),ab];unfold l4;refine(ph (out:=Kw c id ja) h (λ_=>ajA h hb hN1) hN hl).trans ?_;by_cases hr:c.2.2.1.length=0
 ·rw[af hr,ak (show ¬(length c.2.2.1:Int)>0 by omega)];rfl
 rw[ak hr,af (show(length c.2.2.1:Int)>0 by omega)];rfl
theorem QZ {N:Nat} {c z:cK} {id ja:Int} (h:cZ c N):lu id ja c z c N k (0:Int)=k ((M' c.1 id:Nat):Int):=by rw[SQ h.tl h.tN,Pm c.1 0 c.1.length (by omega),aW];rfl
theorem Yc {N:Nat} {c:cK} {id ja:Int} {kf:cK->Bool->aa} (h:cZ c N) (hb:c.1.length<=1048576) (hN1:c.1.length+1<N) (hN:200<N) (hl:c.2.2.2.2.2.1.length+1<N):
  yb N c id ja kf=bif decide (c.2.2.1.length=0) then kf (xq c (Kw c id ja) 1 id) (tV c (Kw c id ja) 1 id) else kf c false:=by
 have hm:=aT
 have hk:=aaK c.1 id
 unfold yb
 rw[dm h,gg h.tl h.tN]
 by_cases hf:bM c.1 id<0
 rotate_left
 ·rw[af (show bM c.1 id≥0 by omega),ab]
  have hd:=avU (ja:=ja) hf
  have hc:xq c (Kw c id ja) 1 id=c:=by unfold xq;rw[hd];rfl
  rw[hd,hc]
  cases decide (c.2.2.1.length=0)<;>rfl
 ·rw[ak (show ¬bM c.1 id≥0 by omega),ae]
  unfold iY
  by_cases hr:c.2.2.1.length=0
  rotate_left
  ·rw[ak hr,af (show(length c.2.2.1:Int)>0 by omega)];rfl
  ·rw[af hr,ak (show ¬(length c.2.2.1:Int)>0 by omega)]
   simp only[ae,ab]
   rw[QZ h]
   show avG N c.1 ((M' c.1 id:Nat):Int) [avT id ja] _=_
   unfold avG
   rw[aDb hk (by omega) (by decide),ab,aj]
   exact qV (out:=Kw c id ja) h (ajA h hb hN1) rfl hN hl
def acM (c:cK) (l:List dJ):cK:=(c.1,(l,c.2.2))
theorem aeb (h:cZ c N) (hl:l.length<=1048700) (hN:l.length<N) (hm:∀ x:dJ,x∈l->x.2.2.length<=1048700/\x.2.2.length<N):cZ (acM c l) N:=by have h0:=aT;exact⟨h.tl,h.tm,h.tN,by show l.length<=_;omega,λx hx=>⟨by have:=(hm x hx).1;omega,(hm x hx).2⟩,hN,h.rl,h.rN,h.sl,h.sN,h.bl,h.bN,h.ml,h.mN,h.n8,h.tb,h.tmb,hl,λx hx=>(hm x hx).1⟩
def avV (id ja:Int):dJ:=(id,(ja,[]))
def Na (l:List dJ) (id:Int):Nat:=(l.takeWhile λx=>decide (x.1<id)).length
def EJ (c:cK) (id ja:Int):cK:=acM c (c.2.1.take (Na c.2.1 id)++[avV id ja]++c.2.1.drop (Na c.2.1 id))
theorem aaL (l:List dJ) (id:Int):Na l id<=l.length:=RI _ _
theorem afi {c:cK} {N:Nat} {id ja:Int} (h:cZ c N) (hb:c.2.1.length<=1048576) (hN:c.2.1.length+1<N):cZ (EJ c id ja) N:=by
 have hl:=as9 (x:=avV id ja) (aaL c.2.1 id);have h8:=h.n8;refine aeb h (by omega) (by omega) λx hx=>?_;rcases as8 hx with hx |rfl
 ·exact⟨h.jmb x hx,(h.jm x hx).2⟩
 exact⟨by show(0:Nat)<=_;omega,by show(0:Nat)<_;omega⟩
theorem apq {c:cK} {id ja:Int} (h:gM (EJ c id ja).2.1=true):ij c.2.1 id<0:=by
 unfold gM at h;simp only[ai] at h;have hm:=as6 (l:=(EJ c id ja).2.1) (z:=ib) (g:=λx:dJ=>x.1) (λi hi h0=>by
  have h1:=(uN.1 h.2) i hi
  rw[aW] at h1
  unfold K8 at h1
  simp only[ai,bo,ax] at h1
  exact h1.2.2.1.resolve_left (by omega))
 have xB:=as7 (xs:=c.2.1) (x:=avV id ja) (z:=ib) (g:=λx:dJ=>x.1) (aaL c.2.1 id) hm;by_cases hf:ij c.2.1 id<0
 ·exact hf
 obtain⟨k,hk,_,h1,_⟩:=gZ (p:=λx:dJ=>x.1==id) (l:=c.2.1) hf;exact absurd (bY.1 h1) (xB k hk)
theorem ata {id ja:Int} (hf: ¬ij c.2.1 id<0):tV c (EJ c id ja) 2 id=false:=by
 cases hd:tV c (EJ c id ja) 2 id with
 |false=>rfl
 |true=>unfold tV gu at hd;simp only[ai] at hd;exact absurd (apq hd.2.2.2.1) hf
theorem Pn {N:Nat} {c z:cK} {id ja:Int} (h:cZ c N):jQ id ja c z c N k (0:Int)=k ((Na c.2.1 id:Nat):Int):=by rw[Qw h.jl h.jN,Pm c.2.1 0 c.2.1.length (by omega),aW];rfl
theorem VJ {N:Nat} {id ja:Int} {kf:cK->Bool->aa} (h:cZ c N) (hb:c.2.1.length<=1048576) (hN1:c.2.1.length+1<N) (hN:200<N) (hl:c.2.2.2.2.2.1.length+1<N): Bi N c id ja kf=kf (xq c (EJ c id ja) 2 id) (tV c (EJ c id ja) 2 id):=by
 have hm:=aT;have hk:=aaL c.2.1 id;unfold Bi;rw[dS h,Pn h];show(bif (decide ((0:Int)<=(0:Int))&&decide ((0:Int)<=((Na c.2.1 id:Nat):Int))&&decide (((Na c.2.1 id:Nat):Int)<=(length c.2.1:Int))) then _ else _)=_;have d1:(decide ((0:Int)<=(0:Int))&&decide ((0:Int)<=((Na c.2.1 id:Nat):Int))&&decide (((Na c.2.1 id:Nat):Int)<=(length c.2.1:Int)))=true:=by simp;omega
 have d2:(decide ((0:Int)<=((Na c.2.1 id:Nat):Int))&&decide (((Na c.2.1 id:Nat):Int)<=(length c.2.1:Int))&&decide ((length c.2.1:Int)<=(length c.2.1:Int)))=true:=by simp;omega
 have l1:(c.2.1.take (Na c.2.1 id)).length<=c.2.1.length:=by rw[aH];omega
 have l2:(c.2.1.drop (Na c.2.1 id)).length<=c.2.1.length:=by rw[a8];omega
 rw[d1,ab,aj,(Mh c.2.1 (Na c.2.1 id)).1,BT (by omega) (λx hx=>h.jmb x (fW hx)) (by omega),af (by simp only[an,ao];omega),ab];show(bif (decide ((0:Int)<=((Na c.2.1 id:Nat):Int))&&decide (((Na c.2.1 id:Nat):Int)<=(length c.2.1:Int))&&decide ((length c.2.1:Int)<=(length c.2.1:Int))) then _ else _)=_;rw[d2,ab,aj];show qk N (List.drop (Na c.2.1 id) (List.take (length c.2.1) c.2.1)) _=_;rw[(Mh c.2.1 (Na c.2.1 id)).2,BT (by omega) (λx hx=>h.jmb x (dV hx)) (by omega),af (by simp only[au,an,ao];omega),ab];exact ph (out:=EJ c id ja) h (λ_=>afi h hb hN1) hN hl
theorem Po {N:Nat} {c z:cK} {id ja:Int} (h:cZ c N):jY id ja c z c N k (0:Int)=k ((Na c.2.1 id:Nat):Int):=by rw[QK h.jl h.jN,Pm c.2.1 0 c.2.1.length (by omega),aW];rfl
theorem VK {N:Nat} {c:cK} {id ja:Int} {kf:cK->Bool->aa} (h:cZ c N) (hb:c.2.1.length<=1048576) (hN1:c.2.1.length+1<N) (hN:200<N) (hl:c.2.2.2.2.2.1.length+1<N):
  wz N c id ja kf=kf (xq c (EJ c id ja) 2 id) (tV c (EJ c id ja) 2 id):=by
 have hm:=aT
 have hk:=aaL c.2.1 id
 unfold wz
 rw[dm h,GI h.jl h.jN]
 by_cases hf:ij c.2.1 id<0
 rotate_left
 ·rw[af (show ij c.2.1 id≥0 by omega),ab]
  have hd:=ata (ja:=ja) hf
  have hc:xq c (EJ c id ja) 2 id=c:=by unfold xq;rw[hd];rfl
  rw[hd,hc]
 ·rw[ak (show ¬ij c.2.1 id≥0 by omega),ae,Po h]
  show avI N c.2.1 ((Na c.2.1 id:Nat):Int) [avV id ja] _=_
  unfold avI
  rw[aDb hk (by omega) (by decide),ab,aj]
  exact qV (out:=EJ c id ja) h (afi h hb hN1) rfl hN hl
theorem aAf (a b:List UInt8):(⟨a.toArray⟩++⟨b.toArray⟩:ByteArray)=⟨(a++b).toArray⟩:=by apply sU;rw[qs];simp
theorem aDc (b:ByteArray):(⟨#[]⟩:ByteArray)++b=b:=by apply sU;rw[qs];simp
theorem ajB (l:List UInt8):ByteArray.size ⟨l.toArray⟩=l.length:=by simp[ByteArray.size]
def dg (u:Nat):List UInt8:=if u=0 then [] else Lib.decDigits u
theorem avW (h:u≠0):dg u=dg (u/10)++[UInt8.ofNat (48+u%10)]:=by
 unfold dg;rw[aq h];rw[Lib.decDigits];by_cases h1:u<10
 ·rw[jn h1,aA (by omega),mD h1];rfl
 rw[pA h1,aq (by omega)]
theorem K9:∀ (m u:Nat),u<10^(m+1)->(Lib.decDigits u).length<=m+1:=by
 intro m;induction m with
 |zero=>intro u hu;rw[Lib.decDigits,jn (by omega)];simp
 |succ m ih=>
 intro u hu;rw[Lib.decDigits];by_cases h1:u<10
 ·rw[jn h1];simp
 rw[pA h1];have:=ih (u/10) (by rw[rE] at hu;omega);simp only[au,an,ao];omega
def Pp (n:Int):Prop:=-9223372036854775808<=n/\n<=9223372036854775807
theorem gk (h:Pp n):(rp n).size<=20:=by
 unfold rp;rw[ajB];unfold Lib.itoa;obtain⟨h1,h2⟩:=h;split
 ·have:=K9 18 n.natAbs (by omega);simp only[an];omega
 have:=K9 18 n.toNat (by omega);omega
theorem atb {d:Nat} (h:d<10):bytesOf [wrap .u8 (wrap .i64 ((48:Int)+(d:Int)))]=⟨[UInt8.ofNat (48+d)].toArray⟩:=by
 have h1:wrap .i64 ((48:Int)+(d:Int))=48+(d:Int):=iT;have h2:wrap .u8 ((48:Int)+(d:Int))=48+(d:Int):=by have hd:d=0∨d=1∨d=2∨d=3∨d=4∨d=5∨d=6∨d=7∨d=8∨d=9:=(by omega);rcases hd with rfl |rfl |rfl |rfl |rfl |rfl |rfl |rfl |rfl |rfl<;>rfl
 rw[h1,h2];have h3:((48:Int)+(d:Int)).toNat=48+d:=by omega
 simp only[bytesOf,nN,List.foldl_nil,h3];apply sU;rw[ByteArray.data_push];rfl
theorem ajC (x:Int):(0<=x/\Int.tdiv x 10=x/10/\Int.tmod x 10=x%10)∨(x<0/\Int.tdiv x 10=-((-x)/10)/\Int.tmod x 10=-((-x)%10)):=by
 by_cases h:0<=x
 ·exact .inl ⟨h,Int.tdiv_eq_ediv_of_nonneg h,fq h⟩
 refine .inr ⟨by omega,?_,?_⟩
 ·have h1:=Int.neg_tdiv (-x) 10;rw[Int.neg_neg] at h1;rw[h1,Int.tdiv_eq_ediv_of_nonneg (by omega)]
 have h1:=Int.neg_tmod (-x) 10;rw[Int.neg_neg] at h1;rw[h1,fq (by omega)]
theorem atc {k:ByteArray->aa}:∀ (m n:Nat) (x:Int) (acc:ByteArray),x.natAbs<10^m->m<n->Pp x->acc.size+m<=1000->iA x0 n k acc x=k (⟨(dg x.natAbs).toArray⟩++acc):=by
 intro m;induction m with
 |zero=>
 intro n x acc hx hn hr hs;obtain⟨n,rfl⟩:∃ n',n=n'+1:=⟨n - 1,by omega⟩;have:x=0:=by omega
 subst this;simp only[iA,aZ,ae];show k acc=k (⟨#[]⟩++acc);rw[aDc]
 |succ m ih=>
 intro n x acc hx hn hr hs;obtain⟨n,rfl⟩:∃ n',n=n'+1:=⟨n - 1,by omega⟩;by_cases h0:x=0
 ·subst h0;simp only[iA,aZ,ae];show k acc=k (⟨#[]⟩++acc);rw[aDc]
 have xB:(x != (0:Int))=true:=by simpa using h0
 obtain⟨hr1,hr2⟩:=hr;have hu:x.natAbs≠0:=by omega
 have hd:x.natAbs%10<10:=by omega
 have hq:(Int.tdiv x 10).natAbs=x.natAbs/10:=by rw[Int.natAbs_tdiv];rfl
 have ht:=Int.mul_tdiv_add_tmod x 10;have hb: -9223372036854775808<=Int.tdiv x 10/\Int.tdiv x 10<=9223372036854775807:=by omega
 have hj:vI (iA x0 n k) acc x ((x.natAbs%10:Nat):Int)=k (⟨(dg x.natAbs).toArray⟩++acc):=by unfold vI;rw[atb hd,ajB,af (by simp only[an,ao];omega),ab,iT,ih n _ _ (by rw[hq,rE] at*;omega) (by omega) hb (by rw[ByteArray.size_append,ajB];simp only[an,ao];omega),hq,←ByteArray.append_assoc,aAf (dg (x.natAbs/10)) [UInt8.ofNat (48+x.natAbs%10)],←avW hu]
 simp only[iA,xB,ab];by_cases amg:Int.tmod x 10<0
 ·rw[af amg,ab];have e:wrap .i64 (0 - Int.tmod x 10)=((x.natAbs%10:Nat):Int):=by
   rcases ajC x with⟨q1,q2,q3⟩ |⟨q1,q2,q3⟩
   ·omega
   rw[q3,iT];omega
  rw[e];exact hj
 rw[ak amg,ae];have e:Int.tmod x 10=((x.natAbs%10:Nat):Int):=by rcases ajC x with⟨q1,q2,q3⟩ |⟨q1,q2,q3⟩<;>omega
 rw[e];exact hj
theorem eX (h:Pp n) (hN:20<N):cr N n kf=kf (rp n):=by
 unfold cr;obtain⟨h1,h2⟩:=h;by_cases h0:n=0
 ·subst h0;have e:rp 0=s_0:=by unfold rp Lib.itoa;rw[aq (by decide),Lib.decDigits,jn (by decide)];rfl
  rw[e];rfl
 have xB:(n==(0:Int))=false:=bP.2 h0;rw[xB,ae,atc 19 N n _ (by omega) (by omega) ⟨h1,h2⟩ (by show(0:Nat)+19<=1000;omega)];have hl:=K9 18 n.natAbs (by omega);have hdg:dg n.natAbs=Lib.decDigits n.natAbs:=by unfold dg;rw[aq (by omega)]
 have hs:(⟨(dg n.natAbs).toArray⟩++HI:ByteArray)=⟨(Lib.decDigits n.natAbs).toArray⟩:=by rw[hdg];show _++(⟨([]:List UInt8).toArray⟩:ByteArray)=_;rw[aAf,b6]
 rw[hs];by_cases amg:n<0
 ·rw[af amg,ab];have e1:iz=⟨[(45:UInt8)].toArray⟩:=rfl;rw[e1,ajB,ajB,af (by simp only[an,ao];omega),ab,aAf];unfold rp Lib.itoa;rw[aA amg];rfl
 rw[ak amg,ae];unfold rp Lib.itoa;rw[aq amg];have:n.natAbs=n.toNat:=by omega
 rw[this]
theorem fB (h:Pp n):cS N n kf=kf (rp n):=by unfold cS azx;rw[af h.1,af h.2];rfl
theorem aec {a b:ByteArray} (h:a.data.toList=b.data.toList):a=b:=sU (Array.ext' h)
theorem Pq (a b:ByteArray):(a++b).data.toList=a.data.toList++b.data.toList:=by rw[qs,nI]
theorem dL (a b:ByteArray):(a++b).size=a.size+b.size:=ByteArray.size_append
def NF (sep:ByteArray) (r:List ByteArray):ByteArray:=⟨(Lib.joinTail sep.data.toList (r.map (·.data.toList))).toArray⟩
theorem amh (sep x:ByteArray) (r:List ByteArray) (s:ByteArray):((s++sep)++x)++NF sep r=s++NF sep (x::r):=by apply aec;simp only[Pq,NF,Lib.joinTail,bq,gI,bA]
theorem apr (sep s:ByteArray):s++NF sep []=s:=by apply aec;simp[Pq,NF,Lib.joinTail]
theorem acN (sep x:ByteArray) (r:List ByteArray):Kc (x::r) sep=x++NF sep r:=by apply aec;simp only[Pq,NF,Kc,bq,Lib.join_cons]
theorem acO (sep:ByteArray):∀ (r:List ByteArray) (m:Nat),(∀ y∈r,y.size<=m)->(NF sep r).size<=(sep.size+m)*r.length
 |[],m,_=>by show(0:Nat)<=_;omega
 |x::r,m,h=>by have ih:=acO sep r m (λy hy=>h y (by simp[hy]));have hx:=h x (by simp);have e:NF sep (x::r)=(sep++x)++NF sep r:=(by apply aec;simp only[Pq,NF,Lib.joinTail,bq,gI,bA]);rw[e,dL,dL,an,vT];omega
theorem ami (h:∀ y∈r,y.size<=m):(Kc r sep).size<=(sep.size+m)*r.length:=by
 cases r with
 |nil=>show(0:Nat)<=_;omega
 |cons x r=>rw[acN,dL,an,vT];have:=acO sep r m (λy hy=>h y (by simp[hy]));have:=h x (by simp);omega
theorem afj (hL:(sep.size+m)*(L+1)<=9000000000000000000) (hb:∀ (i:Nat) (x s:ByteArray) (next:ByteArray->aa),0<i->(s++sep).size<=9223372036854775807->((s++sep)++x).size<=9223372036854775807->body i x s next=next ((s++sep)++x)): ∀ (r:List ByteArray) (i:Nat) (s:ByteArray),0<i->i+r.length<=L->(∀ y∈r,y.size<=m)->s.size<=(sep.size+m)*i->dI body k r i s=k (s++NF sep r)
 |[],i,s,_,_,_,_=>by rw[apr];rfl
 |x::r,i,s,hi,hl,hr,hs=>by have hx:=hr x (by simp);simp only[an] at hl;have h1:(sep.size+m)*(i+1)<=(sep.size+m)*(L+1):=pD _ (by omega);rw[vT] at h1;simp only[dI];rw[hb i x s _ hi (by rw[dL];omega) (by rw[dL,dL];omega),afj hL hb r (i+1) _ (by omega) (by omega) (λy hy=>hr y (by simp[hy])) (by rw[dL,dL,vT];omega),amh]
def Kx (l:List ByteArray):ByteArray:=match l with
 |[]=>iz
 |x::r=>Kc (x::r) A7
theorem GM (hm:∀ y∈l,y.size<=200) (hl:l.length<=1048576) (hN:l.length<N):ry N l kf=kf (Kx l):=by
 have h0:=aT;unfold ry;rw[Va (by omega) hN];cases l with
 |nil=>rfl
 |cons x r=>
 have hx:=hm x (by simp);simp only[an] at hl;have e1:A7.size=1:=rfl;have e0:HI.size=0:=rfl;simp only[dI];rw[fD,ae,eZ,ab,afj (sep:=A7) (m:=200) (L:=1048577) (by omega) (λi x s next hi h1 h2=>?_) r (0+1) _ (by omega) (by omega) (λy hy=>hm y (by simp[hy])) (by rw[dL];omega)]
 ·have e2:((length (x::r):Int)==(0:Int))=false:=bP.2 (by simp only[an];omega);rw[e2,ae];show _=kf (Kc (x::r) A7);rw[acN];congr 1
 rw[dL] at h1 h2;rw[eZ,ab,eZ,eZ];rfl
theorem Jj (hm:∀ y∈l,y.size<=200) (hl:l.length<=1048576):tU N l kf=kf (Kx l):=by
 unfold tU;cases l with
 |nil=>rfl
 |cons x r=>have e2:((length (x::r):Int)==(0:Int))=false:=bP.2 (by simp only[an];omega);rw[e2,ae];unfold avK Kx;have h1:=ami (sep:=A7) hm;have e1:A7.size=1:=rfl;have h2:(A7.size+200)*(x::r).length<=(A7.size+200)*1048576:=pD _ hl;have e3:Nat.ble (length (x::r)) 140737488355328=true:=(by rw[qQ];omega);have e4:Nat.ble (ByteArray.size (Kc (x::r) A7)) 140737488355328=true:=(by rw[qQ];omega);rw[e3,e4];rfl
theorem FJ {α β:Type} {c:Nat->α->Bool} {f:Nat->α->β} {y:β}:∀ {l:List α} {i:Nat},y∈lE c f l i->∃ j x,x∈l/\y=f j x
 |[],i,h=>by simp[lE] at h
 |x::r,i,h=>by
  simp only[lE] at h;cases hc:c i x with
  |true=>
  rw[hc,ab] at h;rcases aV.1 h with rfl |h
  ·exact⟨i,x,by simp,rfl⟩
  obtain⟨j,z,hz,e⟩:=FJ h;exact⟨j,z,by simp[hz],e⟩
  |false=>rw[hc,ae] at h;obtain⟨j,z,hz,e⟩:=FJ h;exact⟨j,z,by simp[hz],e⟩
def Zs (l:List Int):List ByteArray:=lE (λ_ _=>true) (λ_ x=>rp x) l 0
theorem S4 {n:Int} (h:wf (.int .i64) n):Pp n:=by simp only[wf,Lit.wf,IntKind.min,IntKind.max,IntKind.signed,IntKind.bits,ai,ax,dF] at h;unfold Pp;omega
theorem avX {l:List Int} (h:wf (.sl (.int .i64)) l):∀ x∈l,Pp x:=λx hx=>S4 (h.2 x hx)
theorem VL (h:∀ x∈l,Pp x) (hl:l.length<=1048576):(∀ y∈Zs l,y.size<=200)/\(Zs l).length<=1048576:=by have:=rF (c:=λ_ _=>true) (f:=λ_ (x:Int)=>rp x) l 0;refine⟨λy hy=>?_,by unfold Zs;omega⟩;obtain⟨j,x,hx,rfl⟩:=FJ hy;have:=gk (h x hx);omega
theorem vu (h:∀ x∈l,Pp x) (hl:l.length<=1048576) (hN:l.length+20<N):gK N l kf=kf (Kx (Zs l)):=by
 have h0:=aT;have hlen:=rF (c:=λ_ _=>true) (f:=λ_ (x:Int)=>rp x) l 0;unfold gK;rw[L8 (by omega) (by omega),mS (l:=l) (c:=λ_ _=>true) (f:=λ_ x=>rp x) (λi x s next hi e hs=>?_) l 0 [] rfl (by simp)]
 ·rw[b7];exact GM (VL h hl).1 (VL h hl).2 (by show(lE _ _ l 0).length<N;omega)
 rw[eX (h x (by rw[←e];exact aK hi)) (by omega),ax' (by simp only[an,ao];omega) (by decide)];rfl
theorem vw (h:∀ x∈l,Pp x) (hl:l.length<=1048576) (hN:l.length+20<N):gL N l kf=kf (Kx (Zs l)):=by
 have h0:=aT;have hlen:=rF (c:=λ_ _=>true) (f:=λ_ (x:Int)=>rp x) l 0;unfold gL;rw[Ma (by omega) (by omega),mS (l:=l) (c:=λ_ _=>true) (f:=λ_ x=>rp x) (λi x s next hi e hs=>?_) l 0 [] rfl (by simp)]
 ·rw[b7];exact Jj (VL h hl).1 (VL h hl).2
 rw[fB (h x (by rw[←e];exact aK hi)),ax' (by simp only[an,ao];omega) (by decide)];rfl
theorem sm (h:a+b<=4000):decide (a+b<=9223372036854775807)=true:=eZ
theorem afk (h:n<=maxLen):Pp (n:Int):=by have:=aT;exact⟨by omega,by omega⟩
def ajD (x:bC):ByteArray:=((((((rp x.1++nF)++rp x.2.2.1)++sv)++rp (length x.2.2.2.2.2:Int))++zW)++rp x.2.2.2.1)
structure S5 (x:bC):Prop where
 h1:Pp x.1
 h2:Pp x.2.2.1
 h3:Pp (length x.2.2.2.2.2:Int)
 h4:Pp x.2.2.2.1
theorem aAg {x:bC} (h:wf lG x):S5 x:=by obtain⟨a,b,c,d,e,f,_⟩:=h;exact⟨S4 a,S4 c,afk f,S4 d⟩
theorem amj (h:S5 x):(ajD x).size<=200:=by have a1:=gk h.h1;have a2:=gk h.h2;have a3:=gk h.h3;have a4:=gk h.h4;have c1:nF.size=1:=rfl;have c2:sv.size=1:=rfl;have c3:zW.size=1:=rfl;unfold ajD;simp only[dL];omega
def S6 (l:List bC):List ByteArray:=lE (λ_ _=>true) (λ_ x=>ajD x) l 0
theorem afl (h:∀ x∈l,S5 x) (hl:l.length<=1048576):(∀ y∈S6 l,y.size<=200)/\(S6 l).length<=l.length:=by refine⟨λy hy=>?_,rF l 0⟩;obtain⟨j,x,hx,rfl⟩:=FJ hy;exact amj (h x hx)
theorem Q0 {N:Nat} {l:List bC} {kf:ByteArray->aa} (h:∀ x∈l,S5 x) (hl:l.length<=1048576) (hN:l.length+20<N):tq N l kf=kf (Kx (S6 l)):=by
 have h0:=aT;unfold tq;rw[NV (by omega) (by omega),mS (l:=l) (c:=λ_ _=>true) (f:=λ_ x=>ajD x) (λi x s next hi e hs=>?_) l 0 [] rfl (by simp)]
 ·rw[b7];have hb:=afl h hl;have hb2:=hb.2;show ry N (S6 l) kf=_;exact GM hb.1 (by omega) (by omega)
 have q:=h x (by rw[←e];exact aK hi);have a1:=gk q.h1;have a2:=gk q.h2;have a3:=gk q.h3;have a4:=gk q.h4;have c1:nF.size=1:=rfl;have c2:sv.size=1:=rfl;have c3:zW.size=1:=rfl;rw[eX q.h1 (by omega),sm (by first |omega |(simp only[dL];omega)),ab,eX q.h2 (by omega),sm (by first |omega |(simp only[dL];omega)),ab,sm (by first |omega |(simp only[dL];omega)),ab,eX q.h3 (by omega),sm (by first |omega |(simp only[dL];omega)),ab,sm (by first |omega |(simp only[dL];omega)),ab,eX q.h4 (by omega),sm (by first |omega |(simp only[dL];omega)),ab,af (by simp only[an,ao];omega)];rfl
theorem Q1 {N:Nat} {l:List bC} {kf:ByteArray->aa} (h:∀ x∈l,S5 x) (hl:l.length<=1048576) (hN:l.length+20<N):tx N l kf=kf (Kx (S6 l)):=by
 have h0:=aT;unfold tx;rw[N0 (by omega) (by omega),mS (l:=l) (c:=λ_ _=>true) (f:=λ_ x=>ajD x) (λi x s next hi e hs=>?_) l 0 [] rfl (by simp)]
 ·rw[b7];have hb:=afl h hl;have hb2:=hb.2;show tU N (S6 l) kf=_;exact Jj hb.1 (by omega)
 have q:=h x (by rw[←e];exact aK hi);have a1:=gk q.h1;have a2:=gk q.h2;have a3:=gk q.h3;have a4:=gk q.h4;have c1:nF.size=1:=rfl;have c2:sv.size=1:=rfl;have c3:zW.size=1:=rfl;rw[fB q.h1,sm (by first |omega |(simp only[dL];omega)),ab,fB q.h2,sm (by first |omega |(simp only[dL];omega)),ab,sm (by first |omega |(simp only[dL];omega)),ab,fB q.h3,sm (by first |omega |(simp only[dL];omega)),ab,sm (by first |omega |(simp only[dL];omega)),ab,fB q.h4,sm (by first |omega |(simp only[dL];omega)),ab,af (by simp only[an,ao];omega)];rfl
def acP (s:List Int) (i:Nat):ByteArray:=bif decide (i<s.length) then rp (s.getD i 0) else LM
def afm (s:List Int) (i:Nat) (x:lI):ByteArray:=((((rp x.1++iz)++rp x.2)++sw)++acP s i)
def S7 (s:List Int) (l:List lI):List ByteArray:=lE (λ_ _=>true) (afm s) l 0
theorem S8 (h:∀ x∈s,Pp x) (i:Nat):(acP s i).size<=20:=by
 unfold acP;by_cases hi:i<s.length
 ·rw[af hi,ab,aI _ _ hi];exact gk (h _ (aK hi))
 rw[ak hi];show LM.size<=20;have:LM.size=1:=rfl;omega
theorem afn (hs:∀ x∈s,Pp x) (h:∀ x∈l,Pp x.1/\Pp x.2):(∀ y∈S7 s l,y.size<=200)/\(S7 s l).length<=l.length:=by refine⟨λy hy=>?_,rF l 0⟩;obtain⟨j,x,hx,rfl⟩:=FJ hy;obtain⟨q1,q2⟩:=h x hx;have a1:=gk q1;have a2:=gk q2;have a3:=S8 hs j;have c1:iz.size=1:=rfl;have c2:sw.size=1:=rfl;unfold afm;simp only[dL];omega
theorem Q2 {N:Nat} {l:List lI} {s:List Int} {kf:ByteArray->aa} (hs:∀ x∈s,Pp x) (h:∀ x∈l,Pp x.1/\Pp x.2) (hl:l.length<=1048576) (hN:l.length+20<N):tr N l s kf=kf (Kx (S7 s l)):=by
 have h0:=aT;unfold tr;rw[NW (by omega) (by omega),mS (l:=l) (c:=λ_ _=>true) (f:=afm s) (λi x s' next hi e J1=>?_) l 0 [] rfl (by simp)]
 ·rw[b7];have hb:=afn hs h;have hb2:=hb.2;show ry N (S7 s l) kf=_;exact GM hb.1 (by omega) (by omega)
 obtain⟨q1,q2⟩:=h x (by rw[←e];exact aK hi);have a1:=gk q1;have a2:=gk q2;have a3:=S8 hs i;have c1:iz.size=1:=rfl;have c2:sw.size=1:=rfl;have c3:LM.size=1:=rfl;unfold afm acP;unfold acP at a3;by_cases AY:i<s.length
 ·have q3:=hs _ (aK AY);rw[af AY,ab,aI _ _ AY] at a3 ⊢;rw[af (show(i:Int)<(length s:Int) by omega),ab,aJ AY,ab,aj,aI _ _ AY,eX q3 (by omega)];rw[eX q1 (by omega),sm (by first |omega |(simp only[dL];omega)),ab,eX q2 (by omega),sm (by first |omega |(simp only[dL];omega)),ab,sm (by first |omega |(simp only[dL];omega)),ab,sm (by first |omega |(simp only[dL];omega)),ab,af (by simp only[an,ao];omega)];rfl
 rw[ak AY,ae,ak (show ¬(i:Int)<(length s:Int) by omega),ae];rw[eX q1 (by omega),sm (by first |omega |(simp only[dL];omega)),ab,eX q2 (by omega),sm (by first |omega |(simp only[dL];omega)),ab,sm (by first |omega |(simp only[dL];omega)),ab,sm (by first |omega |(simp only[dL];omega)),ab,af (by simp only[an,ao];omega)];rfl
theorem Q3 {N:Nat} {l:List lI} {s:List Int} {kf:ByteArray->aa} (hs:∀ x∈s,Pp x) (h:∀ x∈l,Pp x.1/\Pp x.2) (hl:l.length<=1048576) (hN:l.length+20<N):tz N l s kf=kf (Kx (S7 s l)):=by
 have h0:=aT;unfold tz;rw[N1 (by omega) (by omega),mS (l:=l) (c:=λ_ _=>true) (f:=afm s) (λi x s' next hi e J1=>?_) l 0 [] rfl (by simp)]
 ·rw[b7];have hb:=afn hs h;have hb2:=hb.2;show tU N (S7 s l) kf=_;exact Jj hb.1 (by omega)
 obtain⟨q1,q2⟩:=h x (by rw[←e];exact aK hi);have a1:=gk q1;have a2:=gk q2;have a3:=S8 hs i;have c1:iz.size=1:=rfl;have c2:sw.size=1:=rfl;have c3:LM.size=1:=rfl;unfold afm acP;unfold acP at a3;by_cases AY:i<s.length
 ·have q3:=hs _ (aK AY);rw[af AY,ab,aI _ _ AY] at a3 ⊢;rw[af (show(i:Int)<(length s:Int) by omega),ab,aJ AY,ab,aj,aI _ _ AY,fB q3];rw[fB q1,sm (by first |omega |(simp only[dL];omega)),ab,fB q2,sm (by first |omega |(simp only[dL];omega)),ab,sm (by first |omega |(simp only[dL];omega)),ab,sm (by first |omega |(simp only[dL];omega)),ab,af (by simp only[an,ao];omega)];rfl
 rw[ak AY,ae,ak (show ¬(i:Int)<(length s:Int) by omega),ae];rw[fB q1,sm (by first |omega |(simp only[dL];omega)),ab,fB q2,sm (by first |omega |(simp only[dL];omega)),ab,sm (by first |omega |(simp only[dL];omega)),ab,sm (by first |omega |(simp only[dL];omega)),ab,af (by simp only[an,ao];omega)];rfl
theorem atd (h:cZ c N) (hp:Pp c.2.2.2.2.2.2):∀ x∈[(length c.1:Int),(length c.2.1:Int),(length c.2.2.1:Int),(length (dG c):Int),c.2.2.2.2.2.2,(length c.2.2.2.2.2.1:Int)],Pp x:=by
 have h0:=aT;have h1:=aff c;have h2:=h.bl;have h3:=h.rl;have h4:=h.ml;intro x hx;simp only[aV,List.mem_nil_iff,or_false] at hx;rcases hx with rfl |rfl |rfl |rfl |rfl |rfl
 ·exact afk h.tl
 ·exact afk h.jl
 ·exact afk (by omega)
 ·exact afk (by omega)
 ·exact hp
 exact afk (by omega)
theorem zD :o9 N a b kf=kf (bif decide (a<b) then -1 else bif decide (a>b) then 1 else 0):=by unfold o9 cmp_isNaN_int;simp only[aZ,ae];cases decide (a<b)<;>cases decide (a>b)<;>rfl
def cw (l:List UInt8):ByteArray:=⟨l.toArray⟩
theorem Yd (b:ByteArray):cw b.data.toList=b:=aec (by simp[cw])
theorem Ah (l:List UInt8):(cw l).data.toList=l:=by simp[cw]
def S9 (c:UInt8):List UInt8->List (List UInt8)
 |[]=>[[]]
 |b::r=>bif b==c then []::S9 c r else(match S9 c r with
  |[]=>[[b]]
  |w::ws=>(b::w)::ws)
theorem aAh (c:UInt8):∀ l,S9 c l≠[]
 |[]=>by simp[S9]
 |b::r=>by
  simp only[S9];cases b==c with
  |true=>simp
  |false=>
  cases S9 c r with
  |nil=>simp
  |cons w ws=>simp
theorem VM (c:UInt8) (l:List UInt8):∃ w ws,S9 c l=w::ws:=by
 cases h:S9 c l with
 |nil=>exact absurd h (aAh c l)
 |cons w ws=>exact⟨w,ws,rfl⟩
theorem ag4 (c:UInt8):∀ l,(S9 c l).length<=l.length+1
 |[]=>by simp[S9]
 |b::r=>by
  have ih:=ag4 c r;simp only[S9];cases b==c with
  |true=>simp only[ab,an];omega
  |false=>obtain⟨w,ws,e⟩:=VM c r;rw[e] at ih ⊢;simp only[ae,an] at ih ⊢;omega
theorem acQ (c:UInt8):∀ l:List UInt8,Lib.splitK [c] 0 (l.count c) l=S9 c l
 |[]=>rfl
 |b::l=>by
  have ih:=acQ c l;by_cases hb:b=c
  ·subst hb;have e1:(b::l).count b=l.count b+1:=by simp
   have e2:Lib.index (b::l) [b]=0:=(by rw[zx];unfold Lib.indexByte;simp);rw[e1];unfold Lib.splitK;rw[e2,aq (by decide)];simp only[S9,ld,ab];rw[←ih];rfl
  have hbc:(b==c)=false:=bP.2 hb;have e1:(b::l).count c=l.count c:=List.count_cons_of_ne (by simpa using hb);rw[e1];simp only[S9,hbc,ae];rw[←ih];cases hk:l.count c with
  |zero=>rfl
  |succ k=>
  have hm:c∈l:=List.count_pos_iff.1 (by omega);have hge:=Lib.indexByte_ge l c;have xB:Lib.indexByte l c≠ -1:=by
   intro hx;have:∀ (l:List UInt8),c∈l->Lib.indexByte l c≠ -1:=by
    intro l;induction l with
    |nil=>intro h;cases h
    |cons d l ih=>
    intro h;unfold Lib.indexByte;by_cases hd:d=c
    ·subst hd;simp
    rw[aq (by simpa using hd)];have h1:=ih (by rcases aV.1 h with h |h;exact absurd h.symm hd;exact h);have h2:=Lib.indexByte_ge l c;rw[aq (by simpa using h1)];omega
   exact this l hm hx
  have e2:Lib.index (b::l) [c]=Lib.indexByte l c+1:=(by rw[zx];show(if b==c then(0:Int) else if Lib.indexByte l c== -1 then -1 else Lib.indexByte l c+1)=_;rw[aq (by simpa using hb),aq (by simpa using xB)]);unfold Lib.splitK;rw[e2,zx,aq (by simp;omega),aq (by simpa using xB)];have e3:(Lib.indexByte l c+1).toNat=(Lib.indexByte l c).toNat+1:=(by omega);rw[e3];rfl
theorem aps (s:ByteArray) (c:UInt8):D' s ⟨#[c]⟩=(S9 c s.data.toList).map cw:=by
 have h1:=Lib.splitB_data ⟨#[c]⟩ 0 (Lib.countB s ⟨#[c]⟩) s;have h2:Lib.countB s ⟨#[c]⟩=s.data.toList.count c:=by show Lib.count s.data.toList [c]=_;rw[Lib.count_one]
 rw[h2] at h1;have h3:Lib.splitK (⟨#[c]⟩:ByteArray).data.toList 0 (s.data.toList.count c) s.data.toList=S9 c s.data.toList:=acQ c _;rw[h3] at h1;unfold D';rw[h2,←h1,oa];have:(cw∘λb:ByteArray=>b.data.toList)=id:=funext λb=>Yd b;rw[this,List.map_id]
theorem ate {s:ByteArray} (h:i<s.size) (h':i<s.data.toList.length):bt s (i:Int)=((s.data.toList[i]).toNat:Int):=by unfold bt;rw[jn (by simpa using h)];simp only[aj];congr 2
theorem H8 (s:ByteArray) (a b:Nat):ByteArray.extract s a b=cw ((s.data.toList.drop a).take (b - a)):=by apply aec;rw[Ah,Lib.extract_data]
def De (b:UInt8):Bool:=decide (48<=b.toNat)&&decide (b.toNat<=57)
def val (l:List UInt8) (v:Nat):Nat:=l.foldl (λv b=>10*v+(b.toNat - 48)) v
def okI (l:List UInt8):Bool:=decide (1<=l.length)&&(decide (l.length<=13)&&(l.all De&&(decide (val l 0<=1000000000000)&&(decide (l.length=1)|| !(l.headD 0==48)))))
def acR (l:List UInt8):Int:=bif okI l then(val l 0:Int) else 0
theorem Ai:De b=true↔48<=b.toNat/\b.toNat<=57:=by unfold De;simp
theorem ajE (h:De b=true):UInt8.ofNat (48+(b.toNat - 48))=b:=by
 obtain⟨h1,h2⟩:=Ai.1 h;have:48+(b.toNat - 48)=b.toNat:=by omega
 rw[this];exact UInt8.ofNat_toNat
theorem atf (l:List UInt8) (b:UInt8) (v:Nat):val (l++[b]) v=10*val l v+(b.toNat - 48):=by unfold val;rw[List.foldl_append];rfl
theorem aAi (l:List UInt8) (v:Nat):v<=val l v:=by
 unfold val;induction l generalizing v with
 |nil=>exact aR _
 |cons b l ih=>simp only[nN];have:=ih (10*v+(b.toNat - 48));omega
theorem avY (hb:De b=true) (h:b≠48):1<=val (b::l) 0:=by obtain⟨h1,h2⟩:=Ai.1 hb;have h3:b.toNat≠48:=λe=>h (wI.1 (by rw[e];rfl));have h4:=aAi l (10*0+(b.toNat - 48));show 1<=val l (10*0+(b.toNat - 48));omega
theorem aed:∀ (n:Nat) (l:List UInt8),l.length=n->l.all De=true->l≠[]->(l.length=1∨l.headD 0≠48)->Lib.decDigits (val l 0)=l:=by
 intro n;induction n with
 |zero=>intro l hl _ xB;exact absurd (ek hl) xB
 |succ n ih=>
 intro l hl hd xB hh;obtain⟨l',b,rfl⟩:∃ l' b,l=l'++[b]:=⟨l.dropLast,l.getLast xB,(List.dropLast_concat_getLast xB).symm⟩;rw[List.all_append,ai] at hd;have hb:De b=true:=by simpa using hd.2
 obtain⟨b1,b2⟩:=Ai.1 hb;rw[atf];cases hl':l' with
 |nil=>show Lib.decDigits (10*0+(b.toNat - 48))=[b];rw[Lib.decDigits,jn (by omega)];have:48+(10*0+(b.toNat - 48))=48+(b.toNat - 48):=(by omega);rw[this,ajE hb]
 |cons a r=>
 have hlen:(l'++[b]).length≠1:=by rw[hl'];simp
 have hh2:l'.headD 0≠48:=by
  rcases hh with hh |hh
  ·exact absurd hh hlen
  rw[hl'] at hh ⊢;simpa using hh
 have ha:De a=true:=by have:=hd.1;rw[hl'] at this;simp at this;exact this.1
 have hv:1<=val l' 0:=by rw[hl'];exact avY ha (by rw[hl'] at hh2;simpa using hh2)
 have e:=ih l' (by rw[au,an,ao] at hl;omega) hd.1 (by rw[hl'];simp) (.inr hh2);rw[←hl',Lib.decDigits,pA (by omega)];have e1:(10*val l' 0+(b.toNat - 48))/10=val l' 0:=by omega
 have e2:48+(10*val l' 0+(b.toNat - 48))%10=48+(b.toNat - 48):=by omega
 rw[e1,e2,e,ajE hb]
theorem ag5 (u:Nat):Lib.decDigits u≠[]:=by rw[Lib.decDigits];split<;>simp
theorem acS:∀ (n u:Nat),u<n->0<u->∀ r,Lib.decDigits u≠48::r:=by
 intro n;induction n with
 |zero=>intro u h;omega
 |succ n ih=>
 intro u hu h0 r he;rw[Lib.decDigits] at he;by_cases h1:u<10
 ·rw[jn h1] at he;injection he with he _;have:=bB UInt8.toNat he;have h2:(UInt8.ofNat (48+u)).toNat=48+u:=(by rw[UInt8.toNat_ofNat'];omega);rw[h2] at this;have h3:(48:UInt8).toNat=48:=rfl;omega
 rw[pA h1] at he;cases hd:Lib.decDigits (u/10) with
 |nil=>exact ag5 _ hd
 |cons a r'=>rw[hd] at he;injection he with he _;subst he;exact ih (u/10) (by omega) (by omega) r' hd
theorem ajF (hd:l.all De=true) (xB:1<=l.length):(rp (val l 0:Int)=cw l)↔(decide (l.length=1)|| !(l.headD 0==48))=true:=by
 have e1:rp (val l 0:Int)=cw (Lib.decDigits (val l 0)):=by unfold rp Lib.itoa;rw[aq (by omega),aj];rfl
 rw[e1];have ak4:l≠[]:=λe=>by rw[e] at xB;simp at xB
 constructor
 ·intro h;have h1:Lib.decDigits (val l 0)=l:=by have:=bB (λb:ByteArray=>b.data.toList) h;simpa[cw] using this
  rw[bo,ax];by_cases hl:l.length=1
  ·exact .inl hl
  refine .inr ?_;cases hl2:l with
  |nil=>exact absurd hl2 ak4
  |cons a r=>
  cases ha:a==48 with
  |false=>show(!(a==48))=true;rw[ha];rfl
  |true=>
  have ha:=bY.1 ha;subst ha;by_cases hv:val l 0=0
  ·rw[hv,Lib.decDigits,jn (by decide)] at h1;rw[←h1] at hl;exact absurd rfl hl
  exact absurd (h1.trans hl2) (acS _ _ (sG _) (by omega) r)
 intro h;rw[bo,ax] at h;rw[aed l.length l rfl hd ak4 (h.imp id λh=>by simpa using h)]
theorem ajG {v:Nat} (hv:v<=10000000000000):wrap .i64 ((wrap .i64 ((10:Int)*(v:Int)))+(wrap .i64 (wrap .u8 ((b.toNat:Int) - (48:Int)))))=((10*v+(b.toNat - 48):Nat):Int)∨De b=false:=by
 cases hb:De b with
 |false=>exact .inr rfl
 |true=>obtain⟨h1,h2⟩:=Ai.1 hb;refine .inl ?_;have e1:wrap .u8 ((b.toNat:Int) - (48:Int))=((b.toNat - 48:Nat):Int):=(by obtain⟨d,hd⟩:∃ d,d=b.toNat - 48:=⟨_,rfl⟩;have hd2:(b.toNat:Int) - 48=(d:Int):=(by omega);rw[hd2,←hd];have hd3:d=0∨d=1∨d=2∨d=3∨d=4∨d=5∨d=6∨d=7∨d=8∨d=9:=(by omega);rcases hd3 with rfl |rfl |rfl |rfl |rfl |rfl |rfl |rfl |rfl |rfl<;>rfl);rw[e1,iT (n:=(10:Int)*(v:Int)),iT (n:=((b.toNat - 48:Nat):Int)),iT];omega
theorem RJ {k:Int->aa} (hs:s.size<=13):∀ (r:List UInt8) (i fuel v:Nat),s.data.toList.drop i=r->v<10^i->r.length<fuel-> pX N s fuel k kf (v:Int) (i:Int)=bif r.all De then k (val r v:Int) else kf 0 false
 |[],i,fuel,v,hd,hv,hf=>by have sW:s.data.toList.length=s.size:=(Lib.size_eq s).symm;have mI:s.size<=i:=(by have:=bB length hd;simp only[a8,ao] at this;omega);obtain⟨f,rfl⟩:∃ f,fuel=f+1:=⟨fuel - 1,by simp only[ao] at hf;omega⟩;simp only[pX];rw[fD];rfl
 |b::r,i,fuel,v,hd,hv,hf=>by
  have sW:s.data.toList.length=s.size:=(Lib.size_eq s).symm;have gU:i<s.data.toList.length:=(by have:=bB length hd;simp only[a8,an] at this;omega);rw[aY gU] at hd;injection hd with hb hd;obtain⟨f,rfl⟩:∃ f,fuel=f+1:=⟨fuel - 1,by omega⟩;simp only[an] at hf;have Qg:bt s (i:Int)=(b.toNat:Int):=(by rw[ate (by omega) gU,hb]);have hb8:=b.toNat_lt;have h13:10^i<=10^12:=sZ (by omega) (by omega);simp only[pX,jy];rw[eZ,ab,aJ (by omega),ab,Qg,iT (n:=(b.toNat:Int))];have hr:pE (b.toNat:Int) 48 57=De b:=(by apply b9.2;rw[qD,Ai];omega);rw[hr,lM];cases amk:De b with
  |false=>rfl
  |true=>
   rcases ajG (b:=b) (v:=v) (by omega) with e |e
   rotate_left
   ·rw[amk] at e;cases e
   have hw:wrap .i64 ((i:Int)+(1:Int))=((i+1:Nat):Int):=by rw[iT];omega
   obtain⟨h1,h2⟩:=Ai.1 amk
   simp only[ay,ae,aB]
   rw[ab,e,hw,RJ hs r (i+1) f _ hd (by rw[rE];omega) (by omega)]
   rfl
theorem Ye (hN:40<N):x4 N s kf=kf (acR s.data.toList) (okI s.data.toList):=by
 have sW:s.data.toList.length=s.size:=(Lib.size_eq s).symm
 unfold x4 acR okI
 rw[jy]
 by_cases h1:1<=s.data.toList.length
 rotate_left
 ·have e:pE (ByteArray.size s:Int) 1 13=false:=by
   cases hx:pE (ByteArray.size s:Int) 1 13 with
   |false=>rfl
   |true=>rw[qD] at hx;omega
  rw[e,ak h1]
  rfl
 by_cases h2:s.data.toList.length<=13
 rotate_left
 ·have e:pE (ByteArray.size s:Int) 1 13=false:=by
   cases hx:pE (ByteArray.size s:Int) 1 13 with
   |false=>rfl
   |true=>rw[qD] at hx;omega
  rw[e,ak h2,fE,ee]
  rfl
 have e:pE (ByteArray.size s:Int) 1 13=true:=qD.2 ⟨by omega,by omega⟩
 rw[e,af h1,af h2]
 simp only[ay,ae,aB]
 have hl:=RJ (N:=N) (kf:=kf) (k:=λUw=>bif decide (Uw>(1000000000000:Int)) then kf 0 false else cr N Uw λalx=>bif !(ByteArray.toList alx==ByteArray.toList s) then kf 0 false else kf Uw true) (s:=s) (by omega) s.data.toList 0 N 0 rfl (by simp) (by omega)
 refine hl.trans ?_
 cases hd:s.data.toList.all De with
 |false=>rfl
 |true=>
  simp only[ab,aB]
  by_cases hv:val s.data.toList 0<=1000000000000
  rotate_left
  ·rw[eZ,ak hv];rfl
  ·rw[fD,ae,af hv,eX ⟨by omega,by omega⟩ (by omega),aB]
   have xm:=ajF hd h1
   rw[Yd] at xm
   have hb:(ByteArray.toList (rp (val s.data.toList 0:Int))==ByteArray.toList s)=(decide (s.data.toList.length=1)|| !(s.data.toList.headD 0==48)):=by
    apply b9.2
    rw[bY,←xm,gD,gD]
    exact⟨λh=>aec h,λh=>by rw[h]⟩
   rw[hb]
   cases (decide (s.data.toList.length=1)|| !(s.data.toList.headD 0==48))<;>rfl
theorem RL {k:Int->aa} (hs:s.size<=13):∀ (r:List UInt8) (i fuel v:Nat),s.data.toList.drop i=r->v<10^i->r.length<fuel-> pZ s (ByteArray.size s:Int) fuel k kf (v:Int) (i:Int)=bif r.all De then k (val r v:Int) else kf 0 false
 |[],i,fuel,v,hd,hv,hf=>by have sW:s.data.toList.length=s.size:=(Lib.size_eq s).symm;have mI:s.size<=i:=(by have:=bB length hd;simp only[a8,ao] at this;omega);obtain⟨f,rfl⟩:∃ f,fuel=f+1:=⟨fuel - 1,by simp only[ao] at hf;omega⟩;simp only[pZ];rw[fD];rfl
 |b::r,i,fuel,v,hd,hv,hf=>by
  have sW:s.data.toList.length=s.size:=(Lib.size_eq s).symm;have gU:i<s.data.toList.length:=(by have:=bB length hd;simp only[a8,an] at this;omega);rw[aY gU] at hd;injection hd with hb hd;obtain⟨f,rfl⟩:∃ f,fuel=f+1:=⟨fuel - 1,by omega⟩;simp only[an] at hf;have Qg:bt s (i:Int)=(b.toNat:Int):=(by rw[ate (by omega) gU,hb]);have hb8:=b.toNat_lt;have h13:10^i<=10^12:=sZ (by omega) (by omega);simp only[pZ];rw[af (show(i:Int)<(ByteArray.size s:Int) by omega),aJ (by omega),Qg];simp only[ab];rw[lM];cases amk:De b with
  |false=>
  have: ¬(48<=b.toNat/\b.toNat<=57):=λh=>(by rw[Ai.2 h] at amk;cases amk);by_cases h1:(b.toNat:Int)<48
  ·rw[af h1];rfl
  rw[ak h1,ae,af (show(b.toNat:Int)>57 by omega)];rfl
  |true=>
   rcases ajG (b:=b) (v:=v) (by omega) with e |e
   rotate_left
   ·rw[amk] at e;cases e
   have hw:wrap .i64 ((i:Int)+(1:Int))=((i+1:Nat):Int):=by rw[iT];omega
   obtain⟨h1,h2⟩:=Ai.1 amk
   rw[fD,ae,fD,ae,e,hw,RL hs r (i+1) f _ hd (by rw[rE];omega) (by omega)]
   rfl
theorem apt {l:List UInt8} (h:0<l.length):l.headD 0=l[0]:=by
 cases l with
 |nil=>simp at h
 |cons a r=>rfl
theorem Jk (hN:40<N) (h1:1<=s.data.toList.length) (h2:s.data.toList.length<=13) (h3:(decide (s.data.toList.length=1)|| !(s.data.toList.headD 0==48))=true):xf N s kf=kf (acR s.data.toList) (okI s.data.toList):=by
 have sW:s.data.toList.length=s.size:=(Lib.size_eq s).symm;unfold xf acR okI;have hl:=RL (kf:=kf) (k:=λasd=>bif decide (asd>(1000000000000:Int)) then kf 0 false else kf asd true) (s:=s) (by omega) s.data.toList 0 N 0 rfl (by simp) (by omega);refine hl.trans ?_;rw[af h1,af h2,h3];simp only[aB,dd];cases hd:s.data.toList.all De with
 |false=>rfl
 |true=>
 simp only[ab,aB];by_cases hv:val s.data.toList 0<=1000000000000
 ·rw[fD,af hv];rfl
 rw[eZ,ak hv];rfl
theorem Yf {kf:Int->Bool->aa} (hN:40<N):ya N s kf=kf (acR s.data.toList) (okI s.data.toList):=by
 have sW:s.data.toList.length=s.size:=(Lib.size_eq s).symm
 unfold ya
 by_cases h1:1<=s.data.toList.length
 rotate_left
 ·have e:((ByteArray.size s:Int)==(0:Int))=true:=by rw[bY];omega
  rw[e]
  unfold acR okI
  rw[ak h1]
  rfl
 have e0:((ByteArray.size s:Int)==(0:Int))=false:=bP.2 (by omega)
 rw[e0,ae]
 by_cases h2:s.data.toList.length<=13
 rotate_left
 ·rw[eZ]
  unfold acR okI
  rw[ak h2,fE,ee]
  rfl
 rw[fD,ae]
 by_cases h3:s.data.toList.length=1
 ·rw[fD,ae]
  exact Jk hN h1 h2 (by rw[af h3];rfl)
 ·have gU:0<s.data.toList.length:=by omega
  have Qg:bt s (0:Int)=((s.data.toList[0]).toNat:Int):=ate (i:=0) (by omega) gU
  have hhd:s.data.toList.headD 0=s.data.toList[0]:=apt gU
  rw[eZ,ab,show(0:Int)=((0:Nat):Int) from rfl,aJ (by omega),ab]
  rw[show((0:Nat):Int)=(0:Int) from rfl,Qg]
  have e48:(((s.data.toList[0]).toNat:Int)==(48:Int))=(s.data.toList.headD 0==48):=by
   rw[hhd]
   apply b9.2
   rw[bY,bY]
   constructor
   ·intro h;exact wI.1 (by show _=48;omega)
   ·intro h;rw[h];rfl
  rw[e48]
  cases hh:s.data.toList.headD 0==48 with
  |true=>
   unfold acR okI
   rw[hh,ak h3]
   simp only[ay,Bool.or_self,ee,ae,ab]
  |false=>exact Jk hN h1 h2 (by rw[hh,ak h3];rfl)
def mw (a b:bC):Bool:=bif a.2.2.1 != b.2.2.1 then decide (a.2.2.1>b.2.2.1) else(bif decide (a.2.2.2.1>b.2.2.2.1) then true else(bif a.2.2.2.1==b.2.2.2.1 then decide (a.1<b.1) else false))
theorem Ky {a b:bC}:wq N a b kf=kf (mw a b):=by
 unfold wq mw;cases (a.2.2.1 != b.2.2.1) with
 |true=>rfl
 |false=>
 simp only[ae];cases decide (a.2.2.2.1>b.2.2.2.1) with
 |true=>rfl
 |false=>simp only[ae];cases (a.2.2.2.1==b.2.2.2.1)<;>rfl
theorem Jl:mw a b=true↔a.2.2.1>b.2.2.1∨(a.2.2.1=b.2.2.1/\(a.2.2.2.1>b.2.2.2.1∨(a.2.2.2.1=b.2.2.2.1/\a.1<b.1))):=by
 unfold mw;by_cases h1:a.2.2.1=b.2.2.1
 ·have e1:(a.2.2.1 != b.2.2.1)=false:=(by simp[h1]);rw[e1,ae];by_cases h2:a.2.2.2.1>b.2.2.2.1
  ·rw[af h2];simp[h1,h2]
  rw[ak h2,ae];by_cases h3:a.2.2.2.1=b.2.2.2.1
  ·have e3:(a.2.2.2.1==b.2.2.2.1)=true:=(by simp[h3]);rw[e3,ab];simp[h1,h3]
  have e3:(a.2.2.2.1==b.2.2.2.1)=false:=(by simp[h3]);rw[e3,ae];simp[h1,h2,h3]
 have e1:(a.2.2.1 != b.2.2.1)=true:=by simp[h1]
 rw[e1,ab];simp[h1]
def aml (a b:Int):Int:=bif decide (a<b) then -1 else bif decide (a>b) then 1 else 0
theorem avZ (a b:Int):aml a b=if a<b then -1 else if a>b then 1 else 0:=by
 unfold aml;by_cases h1:a<b
 ·rw[af h1,aA h1];rfl
 rw[ak h1,aq h1];by_cases h2:a>b
 ·rw[af h2,aA h2];rfl
 rw[ak h2,aq h2];rfl
theorem aee (hN:3<N):MX N [a,b,c] kf=kf (if a≠0 then a else if b≠0 then b else c):=by
 unfold MX;rw[ZL (by rw[aT];simp) (by simpa using hN)];simp only[A4];by_cases h1:a=0
 ·subst h1;have e1:(((0:Int) != (0:Int)))=false:=by simp
  rw[e1,ae];by_cases h2:b=0
  ·subst h2;rw[e1,ae];by_cases h3:c=0
   ·subst h3;rw[e1,ae];simp
   have e3:(c != 0)=true:=(by simp[h3]);rw[e3,ab];simp
  have e2:(b != 0)=true:=(by simp[h2]);rw[e2,ab];simp[h2]
 have e2:(a != 0)=true:=by simp[h1]
 rw[e2,ab];simp[h1]
def aAj (a b:bC):Int:=if aml b.2.2.1 a.2.2.1≠0 then aml b.2.2.1 a.2.2.1 else if aml b.2.2.2.1 a.2.2.2.1≠0 then aml b.2.2.2.1 a.2.2.2.1 else aml a.1 b.1
theorem Ta {a b:bC} (hN:3<N):yS N a b kf=kf (aAj a b):=by unfold yS;rw[zD,zD,zD,aee hN];rfl
theorem ajH (a b:bC):decide (aAj a b<0)=mw a b:=by
 rw[b9,Jl,ax];unfold aAj;simp only[avZ];rcases uA a.2.2.1 b.2.2.1 with h1 |h1 |h1
 ·have: ¬b.2.2.1<a.2.2.1:=(by omega);simp only[this,c9,aA (show b.2.2.1>a.2.2.1 from h1)];simp;omega
 ·simp only[h1,zw,c9,gt_iff_lt,ne_eq,vn];rcases uA a.2.2.2.1 b.2.2.2.1 with h2 |h2 |h2
  ·have: ¬b.2.2.2.1<a.2.2.2.1:=(by omega);simp only[this,c9,aA h2];simp;omega
  ·simp only[h2,zw,c9,ne_eq,vn];by_cases h3:a.1<b.1
   ·simp[h3]
   simp only[h3,c9];by_cases h4:b.1<a.1
   ·simp[h4]
   simp[h4]
  simp only[aA h2];simp[h2]
 simp only[aA (show b.2.2.1<a.2.2.1 from h1)];simp[h1]
def Jm (x:bC) (s:List bC):Nat->Nat
 |0=>0
 |k+1=>bif mw x (s.getD k eD) then Jm x s k else k+1
theorem aaM (x:bC) (s:List bC):∀ k,Jm x s k<=k
 |0=>aR _
 |k+1=>by
  unfold Jm;cases mw x (s.getD k eD) with
  |true=>exact Nat.le_succ_of_le (aaM x s k)
  |false=>exact aR _
def Pr (s:List bC) (x:bC):List bC:=s.take (Jm x s s.length)++[x]++s.drop (Jm x s s.length)
theorem VN (s:List bC) (x:bC):(Pr s x).length=s.length+1:=by have:=aaM x s s.length;simp[Pr];omega
def Jn (l:List bC):List bC:=l.foldl Pr []
theorem ajI:∀ (l s:List bC),(l.foldl Pr s).length=s.length+l.length
 |[],s=>by simp
 |x::l,s=>by simp only[nN,ajI l,VN,an];omega
theorem Mi (l:List bC):(Jn l).length=l.length:=by simp[Jn,ajI]
def zE (l:List bC):List Int:=bif bG l then(Jn l).map (λx:bC=>x.1) else []
theorem G' {N:Nat} {l s:List bC} (hi:i<l.length) (hl:l.length<=1048700) (hs:s.length<=1048700):∀ (k n:Nat),k<=s.length->k<n->ns N l s (i:Int) n kk (k:Int)=kk ((Jm l[i] s k:Nat):Int)
 |0,n+1,_,_=>by simp only[ns];rfl
 |k+1,n+1,hk,hn=>by
  have hm:=aT;have ew:wrap .i64 (((k+1:Nat):Int) - 1)=((k:Nat):Int):=(by have:=Me (i:=k+1) (m:=s.length+1) (by omega) (by omega) (by omega);simpa using this);simp only[ns];rw[af (show((k+1:Nat):Int)>0 by omega),ab,aJ hi,ab,ew,aJ (show k<s.length by omega),ab,Ky,aj,aj,aI l i hi];unfold Jm;cases mw l[i] (s.getD k eD) with
  |true=>simp only[ab];exact G' hi hl hs k n (by omega) (by omega)
  |false=>rfl
theorem acT {α σ:Type} {body:Nat->α->σ->(σ->aa)->aa} {du:σ->aa} {g:σ->α->σ} {Inv:Nat->σ->Prop} {l:List α} (hb:∀ (i:Nat) (s:σ) (next:σ->aa) (h:i<l.length),Inv i s->body i l[i] s next=next (g s l[i])/\Inv (i+1) (g s l[i])):∀ (r:List α) (i:Nat) (s:σ),l.drop i=r->Inv i s->dI body du r i s=du (r.foldl g s)
 |[],i,s,_,_=>rfl
 |x::r,i,s,hd,hs=>by have gU:i<l.length:=(by have:=bB length hd;simp at this;omega);rw[aY gU] at hd;injection hd with h1 h2;subst h1;obtain⟨e1,e2⟩:=hb i s (λs'=>dI body du r (i+1) s') gU hs;simp only[dI,nN];rw[e1];exact acT hb r (i+1) _ h2 e2
theorem ajJ {l:List bC} {kf:List Int->aa} (hl:l.length<=1048700):dI (λ(i:Nat) (x:QT) (s:az) (next:az->aa)=> bif (decide ((length s+length [x.1])*1<=4398046511104)) then next (s++[x.1]) else none) (λ(s:az)=>kf s) l 0 []=kf (l.map λx:bC=>x.1):=by
 rw[acT (l:=l) (g:=λs (x:bC)=>s++[x.1]) (Inv:=λi s=>s.length=i) (λi s next h hs=>⟨by rw[af (by simp only[an,ao];omega),ab],by simp[hs]⟩) l 0 [] rfl rfl];congr 1;have:∀ (r:List bC) (s:List Int),r.foldl (λs (x:bC)=>s++[x.1]) s=s++r.map λx:bC=>x.1:=by
  intro r;induction r with
  |nil=>intro s;simp
  |cons x r ih=>intro s;simp[ih]
 simpa using this l []
theorem Mj {N:Nat} {l:List bC} {kf:List Int->aa} (hl:l.length<=maxLen) (hm:∀ x∈l,x.met.length<=maxLen/\x.met.length<N) (hN:l.length+1<N):va N l kf=kf (zE l):=by
 have hx:=aT;unfold va zE;rw[SL hl (by omega)];have ha:∀ kf,ez N l kf=kf (bG l):=λkf=>gh hl hm (by omega);cases nM:bG l with
 |false=>
  have key:∀ (l2:List bC) (body:Nat->bC->List bC->(List bC->aa)->aa) (du:List bC->aa),(∀ i x s next,body i x s next=du s)->dI body du l2 0 []=du []:=by
   intro l2 body du h;cases l2 with
   |nil=>rfl
   |cons x r=>simp only[dI];exact h _ _ _ _
  rw[key _ _ _ (λi x s next=>by rw[ha,nM];rfl)];rw[G9 (by simp) (by simp;omega)];rfl
 |true=>
 have h10:l.length<=10:=by unfold bG at nM;simp only[ai,ax] at nM;exact nM.1
 rw[acT (l:=l) (g:=Pr) (Inv:=λi s=>s.length=i/\i<=l.length) (λi s next h hs=>⟨by
  obtain⟨h1,h2⟩:=hs
  have hp:=aaM l[i] s s.length
  rw[ha,nM]
  simp only[ab]
  rw[G' h (by omega) (by omega) s.length N (aR _) (by omega)]
  have d1:(decide ((0:Int)<=(0:Int))&&decide ((0:Int)<=((Jm l[i] s s.length:Nat):Int))&&decide (((Jm l[i] s s.length:Nat):Int)<=(length s:Int)))=true:=by simp;omega
  have d2:(decide ((0:Int)<=((Jm l[i] s s.length:Nat):Int))&&decide (((Jm l[i] s s.length:Nat):Int)<=(length s:Int))&&decide ((length s:Int)<=(length s:Int)))=true:=by simp;omega
  rw[d1,ab,d2,ab,aj,aj,dX,kh,b7]
  have l1:(s.take (Jm l[i] s s.length)).length<=s.length:=by rw[aH];omega
  have l2:(s.drop (Jm l[i] s s.length)).length<=s.length:=by rw[a8];omega
  rw[af (by simp only[ao];omega),ab,af (by simp only[an,ao];omega),ab,af (by simp only[au,an,ao];omega),ab]
  rfl,by rw[VN];omega,h⟩) l 0 [] rfl ⟨rfl,by omega⟩]
 have hlen:=Mi l;show jR (Jn l) N kf [] 0=_;rw[G9 (by omega) (by omega)];exact ajJ (by omega)
theorem av0 {α:Type} (P Q:List α) (y x:α) (z:α):List.set (List.set (P++(y::x::Q)) (P.length+1) y) P.length x=P++(x::y::Q):=by rw[jB _ _ (by omega),jB _ _ (by omega)];simp
def N5 (s:List bC) (x:bC) (rest:List bC) (k:Nat):List bC:=s.take k++(x::(s.drop k++rest))
theorem atg (hk:k<=s.length):(N5 s x rest k).length=s.length+1+rest.length:=by simp[N5];omega
theorem acU {N:Nat} {s rest:List bC} {kk:List bC->aa} (hN:3<N) (hl:s.length+rest.length<=1048700):∀ (k n:Nat),k<=s.length->k<n-> cy N (0:Int) b i n kk (N5 s x rest k) (k:Int)=kk (N5 s x rest (Jm x s k))
 |0,n+1,_,_=>by simp only[cy];rfl
 |k+1,n+1,hk,hn=>by
  have hm:=aT;have ew:wrap .i64 (((k+1:Nat):Int) - 1)=((k:Nat):Int):=(by have:=Me (i:=k+1) (m:=s.length+1) (by omega) (by omega) (by omega);simpa using this);have hlen:=atg (x:=x) (rest:=rest) hk;have e1:s.take (k+1)=s.take k++[s[k]]:=(by rw[kT (by omega)]);have e2:s.drop k=s[k]::s.drop (k+1):=(by rw[aY (by omega)]);have hP:(s.take k).length=k:=(by rw[aH];omega);have em:N5 s x rest (k+1)=s.take k++(s[k]::x::(s.drop (k+1)++rest)):=(by unfold N5;rw[e1,bA];rfl);have en:N5 s x rest k=s.take k++(x::s[k]::(s.drop (k+1)++rest)):=(by unfold N5;rw[e2];rfl);have g1:(N5 s x rest (k+1)).getD (k+1) eD=x:=(by rw[em,aF,cL (by omega),hP];simp);have g0:(N5 s x rest (k+1)).getD k eD=s[k]:=(by rw[em,aF,cL (by omega),hP];simp);simp only[cy];rw[af (show((k+1:Nat):Int)>0 by omega),ab,aJ (show k+1<(N5 s x rest (k+1)).length by omega),ab,ew,aJ (show k<(N5 s x rest (k+1)).length by omega),ab,aj,aj,g1,g0,Ta hN,ajH];have eb:mw x (s.getD k eD)=mw x s[k]:=(by rw[aI s k (by omega)]);unfold Jm;rw[eb];cases mw x s[k] with
  |true=>
  simp only[ab,share];rw[aJ (show k<_ by rw[br];omega),ab];have es:List.set (List.set (N5 s x rest (k+1)) (k+1) s[k]) k x=N5 s x rest k:=by rw[em,en];have:=av0 (s.take k) (s.drop (k+1)++rest) s[k] x x;rw[hP] at this;exact this
  rw[es];exact acU hN hl k n (by omega) (by omega)
  |false=>rfl
theorem acV {l:List bC} {kk:List bC->aa} (hN:3<N) (hl:l.length<=1048700) (hlN:l.length<N):∀ (r s:List bC) (n:Nat),s.length+r.length=l.length->r.length<n-> bW N (0:Int) (l.length:Int) n kk (s++r) (s.length:Int)=kk (r.foldl Pr s)
 |[],s,n+1,hs,_=>by simp only[bW];rw[ak (show ¬(s.length:Int)<(l.length:Int) by simp at hs;omega)];simp
 |x::r,s,n+1,hs,hn=>by have hm:=aT;simp only[an] at hs hn;simp only[bW];rw[af (show(s.length:Int)<(l.length:Int) by omega),ab];have e0:s++x::r=N5 s x r s.length:=(by simp[N5]);rw[e0,acU hN (by omega) s.length N (aR _) (by omega)];have e1:N5 s x r (Jm x s s.length)=Pr s x++r:=(by simp[N5,Pr]);have e2:wrap .i64 ((s.length:Int)+1)=((Pr s x).length:Int):=(by rw[VN];exact s4 (i:=s.length) (m:=l.length) (by omega) (by omega));rw[e1,e2,acV hN hl hlN r (Pr s x) n (by rw[VN];omega) (by omega)];rfl
theorem ajK {n:Nat} (h:n<256):∃ r,yc N (n:Int) kf=kf r:=by
 unfold yc GB;rw[fD,ae];unfold zr;rw[fD,ae];unfold zq;rw[fD,ae];unfold zp;have e:wrap .u8 (n:Int)=(n:Int):=by simp[wrap,IntKind.bits,IntKind.signed];omega
 rw[e,aJ (m:=ByteArray.size _) (by
  have:ByteArray.size cF=256:=by decide+kernel
  rw[this];exact h),ab]
 exact⟨_,rfl⟩
theorem Tb {l:List bC} {kf:List bC->aa} (hl:l.length<=12) (hN:20<N):fU N l kf=kf (Jn l):=by
 have hm:=aT;unfold fU;have ew:wrap .u64 (length l:Int)=(l.length:Int):=by simp[wrap,IntKind.bits,IntKind.signed];omega
 rw[ew];obtain⟨r,hr⟩:=ajK (N:=N) (n:=l.length) (kf:=λ(iB:Int)=>eN N l (0:Int) (length l:Int) iB kf) (by omega);rw[hr];unfold eN;obtain⟨n,rfl⟩:∃ n,N=n+1:=⟨N - 1,by omega⟩;simp only[fM];rw[iT (n:=(length l:Int) - 0),eZ,ab];unfold fo;cases l with
 |nil=>have e:wrap .i64 ((0:Int)+1)=1:=(by decide);rw[e];simp only[bW];rfl
 |cons x r=>have e:wrap .i64 ((0:Int)+1)=(([x]:List bC).length:Int):=(by show wrap .i64 ((0:Int)+1)=((1:Nat):Int);decide);rw[e];have:=acV (N:=n+1) (l:=x::r) (kk:=kf) (by omega) (by omega) (by omega) r [x] (n+1) (by simp;omega) (by simp at hl;omega);simp only[iQ] at this;rw[this];rfl
theorem av1 {N:Nat} {l:List bC} {kf:List bC->aa} (hl:l.length<=1048576):avJ N l kf=kf l:=Mg (af (by simp only[ao];omega))
theorem EK {l:List bC} {kf:List Int->aa} (hl:l.length<=maxLen) (hm:∀ x∈l,x.met.length<=maxLen/\x.met.length<N) (hN:l.length<N) (Zq:20<N):so N l kf=kf (zE l):=by
 have hx:=aT;unfold so zE;rw[hJ hl hm hN];cases nM:bG l with
 |false=>rfl
 |true=>have h10:l.length<=10:=(by unfold bG at nM;simp only[ai,ax] at nM;exact nM.1);have hlen:=Mi l;simp only[ay,ae,ab];rw[av1 (by omega),Tb (by omega) Zq,SR (by omega) (by omega)];exact ajJ (by omega)
def leM (a b:bC):Prop:=mw b a=false
theorem an1:leM a b↔ ¬(b.2.2.1>a.2.2.1∨(b.2.2.1=a.2.2.1/\(b.2.2.2.1>a.2.2.2.1∨(b.2.2.2.1=a.2.2.2.1/\b.1<a.1)))):=by unfold leM;rw[←Jl,Bool.not_eq_true]
theorem apu (h1:leM a b) (h2:leM b c):leM a c:=by rw[an1] at*;omega
theorem amm (h:mw a b=true):leM a b:=by rw[an1];rw[Jl] at h;omega
theorem amn (h:a.1≠b.1) (hb:mw a b=false):mw b a=true:=by rw[Jl];rw[←Bool.not_eq_true,Jl] at hb;omega
theorem an2 (x:bC) (s:List bC):∀ k i,Jm x s k<=i->i<k->mw x (s.getD i eD)=true
 |0,i,_,h=>by omega
 |k+1,i,h1,h2=>by
  unfold Jm at h1;cases hb:mw x (s.getD k eD) with
  |true=>
  rw[hb,ab] at h1;rcases wH (wG h2) with h3 |rfl
  ·exact an2 x s k i h1 h3
  exact hb
  |false=>rw[hb,ae] at h1;omega
theorem an3 (x:bC) (s:List bC):∀ k,0<Jm x s k->leM (s.getD (Jm x s k - 1) eD) x
 |0,h=>by simp[Jm] at h
 |k+1,h=>by
  unfold Jm at h ⊢;cases hb:mw x (s.getD k eD) with
  |true=>rw[hb,ab] at h;exact an3 x s k h
  |false=>exact hb
theorem apv (s:List bC) (x:bC):(Pr s x).Perm (x::s):=by unfold Pr;refine(List.perm_append_comm.append_right _).trans ?_;rw[bA,ep];exact List.Perm.refl _
theorem afo:∀ (l s:List bC),(l.foldl Pr s).Perm (l++s)
 |[],s=>List.Perm.refl _
 |x::l,s=>by refine(afo l (Pr s x)).trans ?_;refine((apv s x).append_left l).trans ?_;exact List.perm_middle
theorem Yg :x∈Jn l↔x∈l:=by have:=(afo l []).mem_iff (a:=x);rw[b6] at this;exact this
theorem ajL (h:s.Pairwise leM):(Pr s x).Pairwise leM:=by
 have hp:=aaM x s s.length;have hlo:=an3 x s s.length;have hhi:=an2 x s s.length;unfold Pr;generalize Jm x s s.length=p at*;have h0:=h;rw[←ep p s,fk] at h;obtain⟨h1,h2,h3⟩:=h;rw[bA,fk];have hb:∀ y∈s.drop p,leM x y:=λy hy=>by obtain⟨j,hj,rfl⟩:=bL.1 hy;rw[a8] at hj;have:=hhi (p+j) (by omega) (by omega);rw[aI _ _ (by omega)] at this;rw[lT];exact amm this
 have ha:∀ y∈s.take p,leM y x:=λy hy=>by
  obtain⟨j,hj,rfl⟩:=bL.1 hy;rw[aH] at hj;have:=hlo (by omega);rw[aI _ _ (by omega)] at this;rw[gJ];by_cases hjp:j=p - 1
  ·subst hjp;exact this
  exact apu (gE.1 h0 j (p - 1) (by omega) (by omega) (by omega)) this
 refine⟨h1,?_,?_⟩
 ·rw[iQ,bZ];exact⟨hb,h2⟩
 intro a hA b hB;rw[iQ,aV] at hB;rcases hB with rfl |hB
 ·exact ha a hA
 exact h3 a hA b hB
theorem ag6 (l:List bC):(Jn l).Pairwise leM:=by
 have:∀ (l s:List bC),s.Pairwise leM->(l.foldl Pr s).Pairwise leM:=by
  intro l;induction l with
  |nil=>exact λs h=>h
  |cons x l ih=>exact λs h=>ih _ (ajL h)
 exact this l [] List.Pairwise.nil
def nY (t:List bC) (id:Int):bC:=t.getD (bM t id).toNat eD
def ajM (t:List bC) (a b:Int):lI:=bif bG t&&(decide (bM t a≥0)&&(decide (bM t b≥0)&&(bM t a != bM t b))) then (bif decide ((nY t b).2.2.2.2.1<(nY t a).2.2.2.2.1) then(b,a) else bif (nY t b).2.2.2.2.1==(nY t a).2.2.2.2.1 then(bif mw (nY t b) (nY t a) then(b,a) else(a,b)) else(a,b)) else(0,0)
theorem Z3 {N:Nat} {t:List bC} {kf:lI->aa} (hl:t.length<=maxLen) (hm:∀ x∈t,x.met.length<=maxLen/\x.met.length<N) (hN:t.length<N):HU N t a b kf=kf (ajM t a b):=by
 unfold HU ajM;rw[gf hl hN,gf hl hN,gh hl hm hN];cases bG t with
 |false=>rfl
 |true=>
  by_cases ha:bM t a≥0
  rotate_left
  ·rw[af (show bM t a<0 by omega),ak ha];rfl
  by_cases hb:bM t b≥0
  rotate_left
  ·rw[ak (show ¬bM t a<0 by omega),af ha,af (show bM t b<0 by omega),ak hb];rfl
  rw[af ha,af hb,ak (show ¬bM t a<0 by omega),ak (show ¬bM t b<0 by omega),(tD ha).1,(tD hb).1]
  simp only[ab,ae,ay,aB,Ky,bne]
  unfold nY
  cases (bM t a==bM t b)
  ·simp only[ae,bD,ab]
   cases decide ((t.getD (bM t b).toNat eD).2.2.2.2.1<(t.getD (bM t a).toNat eD).2.2.2.2.1)
   ·simp only[ae]
    cases ((t.getD (bM t b).toNat eD).2.2.2.2.1==(t.getD (bM t a).toNat eD).2.2.2.2.1)
    ·rfl
    ·simp only[ab]
     cases mw (t.getD (bM t b).toNat eD) (t.getD (bM t a).toNat eD)<;>rfl
   ·rfl
  ·rfl
theorem Ha (hl:l.length<=maxLen) (hN:l.length<N):nu N l n kf=kf (uV (λx:Int=>n==x) l):=by unfold nu;rw[Dc hl hN,BN (p:=λx:Int=>n==x) (kf:=λi=>kf (i:Int)) (λi x next=>rfl)];unfold uV;cases xX (λx:Int=>n==x) l 0<;>rfl
theorem BU (ha:bM t a≥0):nY t a∈t/\(nY t a).1=a:=by obtain⟨k,hk,e,h1,_⟩:=gZ (p:=λx:bC=>x.1==a) (l:=t) (by unfold bM at ha;omega);have e:bM t a=(k:Int):=e;unfold nY;rw[e,aj,aI _ _ hk];exact⟨aK hk,by simpa using h1⟩
theorem apw (ht:allI (Dd t) t 0=true) (hx:x∈t) (e:x.1=a):nY t a=x:=by obtain⟨i,hi,rfl⟩:=bL.1 hx;unfold nY;rw[(acG ht hi).2 e.symm,aj,aI _ _ hi]
theorem an4 {t:List bC} (ht:allI (Dd t) t 0=true) {a:Int} (ha:bM t a≥0):∃ k:Nat,∃ hk:k<(Jn t).length,uV (λx:Int=>a==x) ((Jn t).map λx:bC=>x.1)=(k:Int)/\(Jn t)[k]=nY t a:=by
 obtain⟨h1,h2⟩:=BU ha;have IB:a∈(Jn t).map λx:bC=>x.1:=cv.2 ⟨nY t a,Yg.2 h1,h2⟩;by_cases hn:uV (λx:Int=>a==x) ((Jn t).map λx:bC=>x.1)<0
 ·obtain⟨j,hj,e⟩:=bL.1 IB;have:=(X5 hn).2 j hj;rw[e] at this;simp at this
 obtain⟨k,hk,e,h3,_⟩:=gZ hn;rw[bh] at hk;refine⟨k,hk,e,?_⟩;rw[vl,bY] at h3;exact(apw ht (Yg.1 (aK hk)) h3.symm).symm
theorem av3 (ht:allI (Dd t) t 0=true) (ha:bM t a≥0) (hb:bM t b≥0) (hab:a≠b):decide (uV (λx:Int=>a==x) ((Jn t).map λx:bC=>x.1)<uV (λx:Int=>b==x) ((Jn t).map λx:bC=>x.1))=!mw (nY t b) (nY t a):=by
 obtain⟨i,hi,e1,h1⟩:=an4 ht ha;obtain⟨j,hj,e2,h2⟩:=an4 ht hb;have hs:=gE.1 (ag6 t);rw[e1,e2];rcases Nat.lt_trichotomy i j with h |h |h
 ·have:=hs i j hi hj h;rw[h1,h2] at this;unfold leM at this;rw[this,eZ];rfl
 ·subst h;have:nY t a=nY t b:=by rw[←h1,←h2]
  exact absurd (by rw[←(BU ha).2,←(BU hb).2,this]) hab
 have:=hs j i hj hi h;rw[h1,h2] at this;unfold leM at this;have h3:=amn (a:=nY t a) (b:=nY t b) (by rw[(BU ha).2,(BU hb).2];exact hab) this;rw[h3,fD];rfl
theorem Z4 {N:Nat} {t:List bC} {kf:lI->aa} (hl:t.length<=maxLen) (hm:∀ x∈t,x.met.length<=maxLen/\x.met.length<N) (hN:t.length<N) (Zq:20<N):H3 N t a b kf=kf (ajM t a b):=by
 have hx:=aT;unfold H3 ajM;rw[gg hl hN,gg hl hN,hJ hl hm hN];cases nM:bG t with
 |false=>rfl
 |true=>
  have Yh:=nM
  unfold bG at Yh
  simp only[ai,ax] at Yh
  obtain⟨h10,ht,_⟩:=Yh
  by_cases ha:bM t a≥0
  rotate_left
  ·rw[af (show bM t a<0 by omega),ak ha];rfl
  by_cases hb:bM t b≥0
  rotate_left
  ·rw[ak (show ¬bM t a<0 by omega),af ha,af (show bM t b<0 by omega),ak hb];rfl
  rw[af ha,af hb,ak (show ¬bM t a<0 by omega),ak (show ¬bM t b<0 by omega),(tD ha).1,(tD hb).1,EK hl hm hN Zq]
  have hlen:=Mi t
  have gy:zE t=(Jn t).map λx:bC=>x.1:=by unfold zE;rw[nM];rfl
  have ZG:(zE t).length=t.length:=by rw[gy,bh,hlen]
  rw[Ha (by omega) (by omega)]
  simp only[Ha (N:=N) (l:=zE t) (by omega) (by omega)]
  by_cases hab:a=b
  ·subst hab;simp
  ·have xB:bM t a≠bM t b:=λe=>hab (by rw[←(BU ha).2,←(BU hb).2];unfold nY;rw[e])
   have e1:(bM t a==bM t b)=false:=by simpa using xB
   simp only[ab,ae,ay,aB,bne,e1,bD]
   rw[gy,av3 ht ha hb hab]
   show(bif decide ((nY t a).2.2.2.2.1<(nY t b).2.2.2.2.1) then kf (a,b) else bif (nY t a).2.2.2.2.1==(nY t b).2.2.2.2.1 then(bif !mw (nY t b) (nY t a) then kf (a,b) else kf (b,a)) else kf (b,a))=_
   rcases uA (nY t a).2.2.2.2.1 (nY t b).2.2.2.2.1 with h |h |h
   ·rw[af h,fD,ab,ae]
    have:((nY t b).2.2.2.2.1==(nY t a).2.2.2.2.1)=false:=by simp;omega
    rw[this];rfl
   ·rw[h,ak (zw _),ae,ld,ab,ab,ae]
    cases mw (nY t b) (nY t a)<;>rfl
   ·rw[fD,af h,ab,ae]
    have:((nY t a).2.2.2.2.1==(nY t b).2.2.2.2.1)=false:=by simp;omega
    rw[this];rfl
theorem Ps (ha:a.length<=1048700) (hb:b.length<=1048700) (hN:2<N):mf N [a,b] kf=kf (a++b):=by
 have hm:=aT;unfold mf;rw[BM (by simp;omega) (by simpa using hN)];simp only[dI];rw[iT (n:=(0:Int)+(length a:Int)),fD,ae,iT (n:=(0:Int)+(length a:Int)+(length b:Int)),fD,ae];unfold avE;have e:(List.isEmpty ([]:List Int)&&(decide ((0:Int)<=0+(length a:Int)+(length b:Int))&&decide (0+(length a:Int)+(length b:Int)<=(549755813888:Int))))=true:=by rw[eZ,eZ];rfl
 rw[e,ab];show fi [a,b] (length [a,b]:Int) N kf [] 0=_;rw[Ag (by simp;omega) (by simpa using hN)];simp only[dI];rw[af (by simp;omega),ab,af (by simp;omega),ab];rfl
def Kz (L:List Int) (i:Nat):List Int:=List.drop 1 (List.take i L)++List.drop (i+1) L
theorem Mk (h1:1<=i) (h:i<L.length):(Kz L i).length=L.length - 2:=by simp[Kz];omega
def NG (t:List bC) (f:List Int->Option (List lI)) (L:List Int):Nat->Nat->Option (List lI)
 |0,_=>none
 |k+1,i=>bif kx t (L.getD 0 0) (L.getD i 0) then
   (match f (Kz L i) with
    |some r=>some (ajM t (L.getD 0 0) (L.getD i 0)::r)
    |none=>NG t f L k (i+1))
  else NG t f L k (i+1)
def Ml (t:List bC):Nat->List Int->Option (List lI)
 |0,_=>none
 |n+1,L=>bif decide (L.length=0) then some [] else NG t (Ml t n) L (L.length - 1) 1
def Z5 {α β:Type} (o:Option (List α)) (k:List α->Bool->β):β:=match o with |some r=>k r true |none=>k [] false
theorem Yi (hf:∀ (L':List Int) r,f L'=some r->2*r.length=L'.length):∀ (k i:Nat) r,1<=i->i+k=L.length->NG t f L k i=some r->2*r.length=L.length
 |0,i,r,h0,h,e=>by simp[NG] at e
 |k+1,i,r,h0,h,e=>by
  unfold NG at e;cases hm:kx t (L.getD 0 0) (L.getD i 0) with
  |false=>rw[hm,ae] at e;exact Yi hf k (i+1) r (by omega) (by omega) e
  |true=>
  rw[hm,ab] at e;cases hr:f (Kz L i) with
  |none=>rw[hr] at e;exact Yi hf k (i+1) r (by omega) (by omega) e
  |some r'=>rw[hr] at e;injection e with e;subst e;have h1:=hf _ _ hr;rw[Mk h0 (by omega)] at h1;simp only[an];omega
theorem Qb:∀ (n:Nat) (L:List Int) r,Ml t n L=some r->2*r.length=L.length
 |0,L,r,e=>by simp[Ml] at e
 |n+1,L,r,e=>by
  unfold Ml at e;by_cases h:L.length=0
  ·rw[af h,ab] at e;injection e with e;subst e;simp[h]
  rw[ak h,ae] at e;exact Yi (λL' r' e'=>Qb n L' r' e') (L.length - 1) 1 r (by omega) (by omega) e
theorem ajN {L:List Int} (h1:1<=i) (h:i<L.length):(decide ((0:Int)<=(1:Int))&&decide ((1:Int)<=(i:Int))&&decide ((i:Int)<=(length L:Int)))=true/\(decide ((0:Int)<=((i+1:Nat):Int))&&decide (((i+1:Nat):Int)<=(length L:Int))&&decide ((length L:Int)<=(length L:Int)))=true:=by
 constructor
 ·rw[eZ,eZ,eZ];rfl
 rw[eZ,eZ,eZ];rfl
theorem acW {N B:Nat} {self:List bC->List Int->(List lI->Bool->aa)->aa} {t:List bC} {f:List Int->Option (List lI)} {L:List Int} {k0:aa} {kf:List lI->Bool->aa}
  (hl:t.length<=maxLen) (hm:∀ x∈t,x.met.length<=maxLen/\x.met.length<N) (hN:t.length<N) (Zq:20<N) (hL:L.length<=1000)
  (hs:∀ (i:Nat) k,1<=i->i<L.length->self t (Kz L i) k=Z5 (f (Kz L i)) k) (Xy:∀ (L':List Int) r,f L'=some r->2*r.length=L'.length):∀ (k i n:Nat),1<=i->i+k=L.length->k<n->
  MS N self t L n k0 kf (i:Int)=match NG t f L k i with |some r=>kf r true |none=>k0
 |0,i,n+1,h1,h,hn=>by
  simp only[MS]
  rw[fD]
  rfl
 |k+1,i,n+1,h1,h,hn=>by
  have hx:=aT
  have ih:=acW (k0:=k0) (kf:=kf) (B:=B) hl hm hN Zq hL hs Xy k (i+1) n (by omega) (by omega) (by omega)
  obtain⟨d1,d2⟩:=ajN (L:=L) h1 (by omega)
  have ew:wrap .i64 ((i:Int)+1)=((i+1:Nat):Int):=s4 (m:=L.length) (i:=i) (by omega) (by omega)
  simp only[MS]
  rw[eZ,ab,show bj (0:Int) (length L)=true from aJ (i:=0) (show 0<L.length by omega),ab,aJ (show i<L.length by omega),ab,NB hl hm hN]
  unfold NG
  show(bif !kx t (L.getD 0 0) (L.getD i 0) then _ else _)=_
  cases kx t (L.getD 0 0) (L.getD i 0) with
  |false=>
   simp only[bD,ab,ae]
   rw[ew]
   exact ih
  |true=>
   simp only[ay,ab,ae]
   rw[d1,ab,ew,d2,ab]
   have e3:(([]:List Int)++List.drop (toNat (1:Int)) (List.take (toNat (i:Int)) L))++List.drop (toNat ((i+1:Nat):Int)) (List.take (toNat (length L:Int)) L)=Kz L i:=by
    rw[aj,aj,aj,kh];rfl
   rw[e3]
   rw[af (by simp;omega),ab,af (by simp;omega),ab,hs i _ h1 (by omega)]
   unfold Z5
   cases hr:f (Kz L i) with
   |none=>exact ih
   |some r=>
    have h2:=Xy _ _ hr
    rw[Mk h1 (by omega)] at h2
    simp only[ab]
    rw[Z3 hl hm hN,af (by simp;omega),ab]
    rfl
theorem an5 {t:List bC} (hl:t.length<=maxLen) (hm:∀ x∈t,x.met.length<=maxLen/\x.met.length<B) (hB:t.length<B) (Zq:20<B):∀ (n N:Nat) (L:List Int) (kf:List lI->Bool->aa),L.length<=n->L.length<B->L.length<=1000->B+n+1<=N->alE N t L kf=Z5 (Ml t (n+1) L) kf
 |n,0,L,kf,_,_,_,h=>by omega
 |n,N+1,L,kf,h1,h2,h3,h=>by
  show alD (alE N) N t L kf=_;unfold alD Ml;by_cases h0:L.length=0
  ·rw[af h0,ab];have:((length L:Int)==0)=true:=(by simp[h0]);rw[this];rfl
  rw[ak h0,ae];have:((length L:Int)==0)=false:=(by simp;intro e;exact h0 (by simp[e]));rw[this,ae];obtain⟨n,rfl⟩:∃ m,n=m+1:=⟨n - 1,by omega⟩;have:=acW (N:=N) (B:=B) (self:=alE N) (t:=t) (f:=Ml t (n+1)) (L:=L) (k0:=kf [] false) (kf:=kf) hl (λx hx=>⟨(hm x hx).1,by have:=(hm x hx).2;omega⟩) (by omega) (by omega) h3 (λi k hi1 AY=>by
   have hr:=Mk hi1 AY
   exact an5 hl hm hB Zq n N (Kz L i) k (by omega) (by omega) (by omega) (by omega)) (λL' r e=>Qb (n+1) L' r e) (L.length - 1) 1 N (by omega) (by omega) (by omega)
  refine dW this ?_;unfold Z5;cases NG t (Ml t (n+1)) L (L.length - 1) 1<;>rfl
theorem acX {N B:Nat} {self:List bC->List Int->(List lI->Bool->aa)->aa} {t:List bC} {f:List Int->Option (List lI)} {L:List Int} {k0:aa} {kf:List lI->Bool->aa}
  (hl:t.length<=maxLen) (hm:∀ x∈t,x.met.length<=maxLen/\x.met.length<N) (hN:t.length<N) (Zq:20<N) (hL:L.length<=1000)
  (hs:∀ (i:Nat) k,1<=i->i<L.length->self t (Kz L i) k=Z5 (f (Kz L i)) k) (Xy:∀ (L':List Int) r,f L'=some r->2*r.length=L'.length):∀ (k i n:Nat),1<=i->i+k=L.length->k<n->
  MZ N self t L n k0 kf (i:Int)=match NG t f L k i with |some r=>kf r true |none=>k0
 |0,i,n+1,h1,h,hn=>by
  simp only[MZ]
  rw[fD]
  rfl
 |k+1,i,n+1,h1,h,hn=>by
  have hx:=aT
  have ih:=acX (k0:=k0) (kf:=kf) (B:=B) hl hm hN Zq hL hs Xy k (i+1) n (by omega) (by omega) (by omega)
  obtain⟨d1,d2⟩:=ajN (L:=L) h1 (by omega)
  have ew:wrap .i64 ((i:Int)+1)=((i+1:Nat):Int):=s4 (m:=L.length) (i:=i) (by omega) (by omega)
  simp only[MZ]
  rw[eZ,ab,show bj (0:Int) (length L)=true from aJ (i:=0) (show 0<L.length by omega),ab,aJ (show i<L.length by omega),ab,NC hl hm hN]
  unfold NG
  show(bif !kx t (L.getD 0 0) (L.getD i 0) then _ else _)=_
  cases kx t (L.getD 0 0) (L.getD i 0) with
  |false=>
   simp only[bD,ab,ae]
   rw[ew]
   exact ih
  |true=>
   simp only[ay,ab,ae]
   rw[d1,ab,ew,d2,ab]
   have e3:List.drop (toNat (1:Int)) (List.take (toNat (i:Int)) L)++List.drop (toNat ((i+1:Nat):Int)) (List.take (toNat (length L:Int)) L)=Kz L i:=by
    rw[aj,aj,aj,kh];rfl
   rw[Ps (by simp;omega) (by simp;omega) (by omega),e3,hs i _ h1 (by omega)]
   unfold Z5
   cases hr:f (Kz L i) with
   |none=>exact ih
   |some r=>
    have h2:=Xy _ _ hr
    rw[Mk h1 (by omega)] at h2
    simp only[ab]
    rw[Z4 hl hm hN Zq,af (by simp;omega),ab]
    rfl
theorem an6 {t:List bC} (hl:t.length<=maxLen) (hm:∀ x∈t,x.met.length<=maxLen/\x.met.length<B) (hB:t.length<B) (Zq:20<B):∀ (n N:Nat) (L:List Int) (kf:List lI->Bool->aa),L.length<=n->L.length<B->L.length<=1000->B+n+1<=N->al2 N t L kf=Z5 (Ml t (n+1) L) kf
 |n,0,L,kf,_,_,_,h=>by omega
 |n,N+1,L,kf,h1,h2,h3,h=>by
  show al1 (al2 N) N t L kf=_;unfold al1 Ml;by_cases h0:L.length=0
  ·rw[af h0,ab];have:((length L:Int)==0)=true:=(by simp[h0]);rw[this];rfl
  rw[ak h0,ae];have:((length L:Int)==0)=false:=(by simp;intro e;exact h0 (by simp[e]));rw[this,ae];obtain⟨n,rfl⟩:∃ m,n=m+1:=⟨n - 1,by omega⟩;have:=acX (N:=N) (B:=B) (self:=al2 N) (t:=t) (f:=Ml t (n+1)) (L:=L) (k0:=kf [] false) (kf:=kf) hl (λx hx=>⟨(hm x hx).1,by have:=(hm x hx).2;omega⟩) (by omega) (by omega) h3 (λi k hi1 AY=>by
   have hr:=Mk hi1 AY
   exact an6 hl hm hB Zq n N (Kz L i) k (by omega) (by omega) (by omega) (by omega)) (λL' r e=>Qb (n+1) L' r e) (L.length - 1) 1 N (by omega) (by omega) (by omega)
  refine dW this ?_;unfold Z5;cases NG t (Ml t (n+1)) L (L.length - 1) 1<;>rfl
def GN (t:List bC):Option (List lI):=bif bG t then bif decide (t.length%2=1) then none else Ml t (t.length+1) (zE t) else none
theorem Tc (h:bG t=true):(zE t).length=t.length:=by unfold zE;rw[h,ab,bh,Mi]
theorem acY (h:GN t=some r):2*r.length=t.length/\t.length<=10:=by
 unfold GN at h;cases nM:bG t with
 |false=>rw[nM] at h;simp at h
 |true=>
 have Yh:=nM;unfold bG at Yh;simp only[ai,ax] at Yh;rw[nM,ab] at h;by_cases ho:t.length%2=1
 ·rw[af ho] at h;simp at h
 rw[ak ho,ae] at h;have:=Qb _ _ _ h;rw[Tc nM] at this;exact⟨this,Yh.1⟩
theorem aya (n:Nat):(Int.tmod (n:Int) 2==1)=decide (n%2=1):=by
 have:Int.tmod (n:Int) 2=((n%2:Nat):Int):=by rw[fq (by omega)];omega
 rw[this];by_cases h:n%2=1
 ·rw[h];rfl
 rw[ak h];simp;omega
theorem VO {t:List bC} {kf:List lI->Bool->aa} (hl:t.length<=maxLen) (hm:∀ x∈t,x.met.length<=maxLen/\x.met.length+20<N) (hN:t.length+20<N) (h60:60<N):Bk N t kf=Z5 (GN t) kf:=by
 have hx:=aT;unfold Bk GN;rw[gh hl (λx hx=>⟨(hm x hx).1,by have:=(hm x hx).2;omega⟩) (by omega)];cases nM:bG t with
 |false=>rfl
 |true=>
 have Yh:=nM;unfold bG at Yh;simp only[ai,ax] at Yh;rw[aya];by_cases ho:t.length%2=1
 ·rw[af ho];rfl
 rw[ak ho];simp only[ay,ab,ae];rw[Mj hl (λx hx=>⟨(hm x hx).1,by have:=(hm x hx).2;omega⟩) (by omega)];have hs:=Tc nM;exact an5 (B:=N - 15) hl (λx hx=>⟨(hm x hx).1,by have:=(hm x hx).2;omega⟩) (by omega) (by omega) t.length N _ _ (by omega) (by omega) (by omega) (by omega)
theorem VP {t:List bC} {kf:List lI->Bool->aa} (hl:t.length<=maxLen) (hm:∀ x∈t,x.met.length<=maxLen/\x.met.length+20<N) (hN:t.length+20<N) (h60:60<N):BC N t kf=Z5 (GN t) kf:=by
 have hx:=aT;unfold BC GN;rw[hJ hl (λx hx=>⟨(hm x hx).1,by have:=(hm x hx).2;omega⟩) (by omega)];cases nM:bG t with
 |false=>rfl
 |true=>
 have Yh:=nM;unfold bG at Yh;simp only[ai,ax] at Yh;rw[aya];by_cases ho:t.length%2=1
 ·rw[af ho];rfl
 rw[ak ho];simp only[ay,ab,ae];rw[EK hl (λx hx=>⟨(hm x hx).1,by have:=(hm x hx).2;omega⟩) (by omega) (by omega)];have hs:=Tc nM;exact an6 (B:=N - 15) hl (λx hx=>⟨(hm x hx).1,by have:=(hm x hx).2;omega⟩) (by omega) (by omega) t.length N _ _ (by omega) (by omega) (by omega) (by omega)
end Go.Pv.R
