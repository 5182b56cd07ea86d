/- The law over the plain functions. -/
import Derived.Test.YtafpcididdbipaaGreatDoorPlHz
set_option linter.unusedSimpArgs false
set_option linter.unusedVariables false
noncomputable section
namespace Go.Pv.R
open List Int IntKind
end Go.Pv.R
namespace Go.Pv.R
open List Int IntKind
theorem ka {N:Nat} {a b c:Int} {kf:Bool->Option aa}:bn N a b c kf=kf (q7 a b c):=by unfold bn q7;by_cases h:b<=a<;>simp[h]
theorem fw {N:Nat} {a b c:Int} {kf:Bool->Option aa}:aw N a b c kf=kf (q7 a b c):=by unfold aw q7;by_cases h:b<=a<;>simp[h]
end Go.Pv.R
namespace Go.Pv.R
open List Int IntKind
theorem VK (a:Int):(a.tmod 2147483647=a%2147483647/\0<=a)∨(a.tmod 2147483647=-((-a)%2147483647)/\a<0):=by
 rcases Int.lt_or_le a 0 with h |h
 ·right;refine⟨?_,h⟩;have h1:(-a).tmod 2147483647=(-a)%2147483647:=Int.tmod_eq_emod_of_nonneg (by omega);rw[Int.neg_tmod] at h1;omega
 exact .inl ⟨Int.tmod_eq_emod_of_nonneg h,h⟩
theorem ZK {N:Nat} {a:Int} {kf:Int->Option aa}:Hi N a 2147483647 kf=kf (a%2147483647):=by
 unfold Hi;rw[ka,show q7 2147483647 1 1000000000000=true from by decide];have e:(decide ((2147483647:Int)=0))=false:=by decide
 simp only[Bool.not_true,cond_false,e,Bool.not_false,cond_true];congr 1;rcases VK a with⟨h,h'⟩ |⟨h,h'⟩<;>rw[h,wrap64 (by omega) (by omega),Int.tmod_eq_emod_of_nonneg (by omega)]<;>omega
theorem ZL {N:Nat} {a:Int} {kf:Int->Option aa}:Mz N a 2147483647 kf=kf (a%2147483647):=by
 unfold Mz;rw[fw,show q7 2147483647 1 1000000000000=true from by decide];have e:(decide ((2147483647:Int)=0))=false:=by decide
 simp only[Bool.not_true,cond_false,e,Bool.not_false,cond_true];rcases VK a with⟨h,h'⟩ |⟨h,h'⟩<;>rw[h]
 ·rw[decide_eq_false (by omega),cond_false]
 by_cases hz: -((-a)%2147483647)<0
 ·rw[decide_eq_true hz,cond_true,wrap64 (by omega) (by omega)];congr 1;omega
 rw[decide_eq_false hz,cond_false];congr 1;omega
def foldM (i:Nat) (x s:Int):Int:=Int.tmod (wrap .i64 ((wrap .i64 ((wrap .i64 (s*(1000003:Int)))+x%2147483647))+(13:Int))) (2147483647:Int)
def ai1 (l:List Int):Int:=foldI foldM l 0 11
theorem Xg {N:Nat} {l:List Int} {kf:Int->Option aa} (hl:l.length<=maxLen) (hN:l.length<N):Iv N l kf=kf (ai1 l):=by unfold Iv;rw[SR hl hN,KK foldM (λi x s next h e=>by rw[ZK];rfl)];rfl
theorem Xh {N:Nat} {l:List Int} {kf:Int->Option aa} (hl:l.length<=maxLen) (hN:l.length<N):Iz N l kf=kf (ai1 l):=by unfold Iz;rw[SS hl hN,KK foldM (λi x s next h e=>by unfold Iy;rw[ZL];rfl)];rfl
def P8 (s:Int) (x:QL):Int:=ai1 [s,x.1,x.2.1,x.2.2.1]
theorem F5 {N:Nat} {s:Int} {x:QL} {kf:Int->Option aa} (hN:4<N):nE N s x kf=kf (P8 s x):=by unfold nE;rw[Xg (by rw[aq];simp) (by simpa using hN)];rfl
theorem DK {N:Nat} {s:Int} {x:QL} {kf:Int->Option aa} (hN:4<N):l4 N s x kf=kf (P8 s x):=by unfold l4;rw[Xh (by rw[aq];simp) (by simpa using hN)];rfl
def ZM:List QL->Nat->Int->Bool
 |[],_,_=>true
 |x::r,i,s=>(x.1==((i+1:Nat):Int))&&q7 x.2.1 1 9&&q7 x.2.2.1 0 99&&(x.2.2.2==P8 s x)&&ZM r (i+1) x.2.2.2
def nT (l:List QL):Bool:=decide (l.length<=200)&&ZM l 0 0
theorem AO {N:Nat} {l:List QL} {kf:Bool->Option aa} (hl:l.length<=maxLen) (hN:l.length<N) (h4:4<N):od N l kf=kf (nT l):=by
 unfold od;rw[Hw hl hN];by_cases hc:l.length<=200
 ·have h1:(decide ((l.length:Int)<=200))=true:=decide_eq_true (by omega);have key:∀ (r:List QL) (i:Nat) (s:Int),l.drop i=r->dV (λ(i:Nat) (x:QL) (ao:Int) (next:Int->Option aa)=>
    bif (decide ((length l:Int)<=(200:Int))) then
     nE N ao x (λ(JQ:Int)=>
      bif (x.1 != (wrap .i64 ((i:Int)+(1:Int)))) then kf false
      else
       bn N x.2.1 (1:Int) (9:Int) (λ(Za:Bool)=>
        bif (!Za) then kf false
        else
         bn N x.2.2.1 (0:Int) (99:Int) (λ(Mp:Bool)=>
          bif (!Mp) then kf false
          else
           bif (x.2.2.2 != JQ) then kf false
           else next JQ)))
    else kf (decide ((length l:Int)<=(200:Int)))) (λ(ao:Int)=>kf (decide ((length l:Int)<=(200:Int)))) r i s=kf (ZM r i s):=by
   intro r
   induction r with
   |nil=>intro i s _;simp only[dV,ZM,h1]
   |cons x r ih=>
    intro i s hd
    have du:i<l.length:=by have:=congrArg length hd;simp at this;omega
    rw[List.drop_eq_getElem_cons du] at hd
    injection hd with e1 e2
    simp only[dV,ZM]
    simp only[ih (i+1) _ e2]
    simp only[h1,cond_true,F5 h4,ka,mK du hl]
    cases hx:(x.1==((i+1:Nat):Int)) with
    |false=>simp only[bne,hx,Bool.not_false,cond_true,Bool.false_and]
    |true=>
     simp only[bne,hx,Bool.not_true,cond_false,Bool.true_and]
     cases q7 x.2.1 1 9<;>simp
     cases q7 x.2.2.1 0 99<;>simp
     by_cases hs:x.2.2.2=P8 s x
     ·simp[hs]
     ·have:(x.2.2.2==P8 s x)=false:=by simpa using hs
      simp[this]
  refine Eq.trans (key l 0 0 rfl) ?_;unfold nT;simp[hc]
 have h1:(decide ((l.length:Int)<=200))=false:=decide_eq_false (by omega);cases l with
 |nil=>simp at hc
 |cons x r=>simp only[dV,h1,cond_false];unfold nT;rw[decide_eq_false hc];rfl
theorem sL {N:Nat} {l:List QL} {kf:Bool->Option aa} (hl:l.length<=maxLen) (hN:l.length<N) (h4:4<N):k8 N l kf=kf (nT l):=by
 unfold k8;by_cases hc:l.length<=200
 ·have h1:(decide ((l.length:Int)>200))=false:=decide_eq_false (by omega);rw[h1,cond_false,HA hl hN];have key:∀ (r:List QL) (i:Nat) (s:Int),l.drop i=r->dV (λ(i:Nat) (x:QL) (bg:Int) (next:Int->Option aa)=>
    bif (x.1 != (wrap .i64 ((i:Int)+(1:Int)))) then kf false
    else
     aw N x.2.1 (1:Int) (9:Int) (λ(MA:Bool)=>
      bif (!MA) then kf false
      else
       aw N x.2.2.1 (0:Int) (99:Int) (λ(Zr:Bool)=>
        bif (!Zr) then kf false
        else
         l4 N bg x (λ(Sv:Int)=>
          bif (x.2.2.2 != Sv) then kf false
          else next x.2.2.2)))) (λ(bg:Int)=>kf true) r i s=kf (ZM r i s):=by
   intro r
   induction r with
   |nil=>intro i s _;simp only[dV,ZM]
   |cons x r ih=>
    intro i s hd
    have du:i<l.length:=by have:=congrArg length hd;simp at this;omega
    rw[List.drop_eq_getElem_cons du] at hd
    injection hd with e1 e2
    simp only[dV,ZM]
    simp only[ih (i+1) _ e2]
    simp only[DK h4,fw,mK du hl]
    cases hx:(x.1==((i+1:Nat):Int)) with
    |false=>simp only[bne,hx,Bool.not_false,cond_true,Bool.false_and]
    |true=>
     simp only[bne,hx,Bool.not_true,cond_false,Bool.true_and]
     cases q7 x.2.1 1 9<;>simp
     cases q7 x.2.2.1 0 99<;>simp
     by_cases hs:x.2.2.2=P8 s x
     ·simp[hs]
     ·have:(x.2.2.2==P8 s x)=false:=by simpa using hs
      simp[this]
  refine Eq.trans (key l 0 0 rfl) ?_;unfold nT;simp[hc]
 have h1:(decide ((l.length:Int)>200))=true:=decide_eq_true (by omega);rw[h1,cond_true];unfold nT;rw[decide_eq_false hc];rfl
end Go.Pv.R
namespace Go.Pv
open List Int IntKind
theorem SU {α:Type} {p:α->Bool}:∀ {l:List α} {i k:Nat},ru p l i=some k->∃ j,∃ h:j<l.length,k=i+j/\p l[j]=true/\∀ j' (h':j'<j),p (l[j']'(by omega))=false
 |[],i,k,h=>by cases h
 |x::r,i,k,h=>by
  simp only[ru] at h;cases hp:p x with
  |true=>rw[hp] at h;injection h with h;exact⟨0,by simp,by omega,hp,λj' h'=>by omega⟩
  |false=>
  rw[hp] at h;obtain⟨j,hj,e,h1,h2⟩:=SU (l:=r) h;refine⟨j+1,by simpa using hj,by omega,h1,λj' h'=>?_⟩;cases j' with
  |zero=>exact hp
  |succ j'=>exact h2 j' (by omega)
theorem SV {α:Type} {p:α->Bool}:∀ {l:List α} {i:Nat},ru p l i=none->∀ j (h:j<l.length),p l[j]=false
 |[],i,h,j,hj=>by simp at hj
 |x::r,i,h,j,hj=>by
  simp only[ru] at h;cases hp:p x with
  |true=>rw[hp] at h;cases h
  |false=>
  rw[hp] at h;cases j with
  |zero=>exact hp
  |succ j=>exact SV (l:=r) h j (by simpa using hj)
theorem uR {α:Type} {body:Nat->α->Option aa->Option aa} {eB:Option aa} {kf:Nat->Option aa} {p:α->Bool} (hb:∀ (i:Nat) (x:α) (next:Option aa),body i x next=bif p x then kf i else next):∀ (l:List α) (i:Nat),ud body eB l i=match ru p l i with
  |some k=>kf k
  |none=>eB
 |[],_=>rfl
 |x::r,i=>by
  simp only[ud,ru]
  rw[hb]
  cases p x
  ·exact uR hb r (i+1)
  ·rfl
def oh {α:Type} (p:α->Bool) (l:List α):Int:=match ru p l 0 with
 |some k=>(k:Int)
 |none=>-1
theorem ck {α:Type} {p:α->Bool} {l:List α} (h: ¬oh p l<0):∃ k:Nat,∃ hk:k<l.length,oh p l=(k:Int)/\p l[k]=true/\∀ j (hj:j<k),p (l[j]'(by omega))=false:=by
 unfold oh at*;split at h
 ·rename_i k hk;obtain⟨j,hj,e,h1,h2⟩:=SU hk;obtain rfl:k=j:=by omega
  exact⟨k,hj,rfl,h1,h2⟩
 omega
theorem IK {α:Type} {p:α->Bool} {l:List α} (h:oh p l<0):oh p l=-1/\∀ j (hj:j<l.length),p l[j]=false:=by
 unfold oh at*;split at h
 ·omega
 rename_i hn;exact⟨rfl,SV hn⟩
theorem SW {α:Type} {p q:Nat->α->Bool}:∀ {l:List α} {i:Nat},allI (λi x=>p i x&&q i x) l i=(allI p l i&&allI q l i)
 |[],_=>rfl
 |x::r,i=>by simp only[allI,SW (l:=r)];cases p i x<;>cases q i x<;>cases allI p r (i+1)<;>simp
theorem acq {α:Type} {p q:Nat->α->Bool} {l:List α} (h:∀ (j:Nat) (hj:j<l.length),p j l[j]=q j l[j]):allI p l 0=allI q l 0:=by
 apply Bool.eq_iff_iff.2;rw[iv,iv];constructor
 ·intro h1 j hj;have:=h1 j hj;rw[Nat.zero_add] at*;rw[←h j hj];exact this
 intro h1 j hj;have:=h1 j hj;rw[Nat.zero_add] at*;rw[h j hj];exact this
theorem DL {i m:Nat} (h0:0<i) (h:i<m) (hm:m<=maxLen):wrap .i64 ((i:Int) - 1)=((i - 1:Nat):Int):=by have:=aq;rw[wrap64]<;>omega
end Go.Pv
namespace Go.Pv.R
open List Int IntKind
abbrev ak:=QT
def au (l:List ak) (id:Int):Int:=oh (λx:ak=>x.1==id) l
theorem c6 {N:Nat} {l:List ak} {id:Int} {kf:Int->Option aa} (hl:l.length<=maxLen) (hN:l.length<N):cH N l id kf=kf (au l id):=by unfold cH;rw[KV hl hN,uR (p:=λx:ak=>x.1==id) (kf:=λi=>kf (i:Int)) (λi x next=>rfl)];unfold au oh;cases ru (λx:ak=>x.1==id) l 0<;>rfl
theorem cF {N:Nat} {l:List ak} {id:Int} {kf:Int->Option aa} (hl:l.length<=maxLen) (hN:l.length<N):bL N l id kf=kf (au l id):=by unfold bL dZ;rw[nR hl hN];simp only[rZ];rw[uR (p:=λx:ak=>x.1==id) (kf:=λi=>kf (i:Int)) (λi x next=>rfl)];unfold au oh;cases ru (λx:ak=>x.1==id) l 0<;>rfl
def AP (l:List Int) (n:Int):Int:=foldI (λi x s=>bif x==n then wrap .i64 (s+1) else s) l 0 0
theorem DM {N:Nat} {l:List Int} {n:Int} {kf:Int->Option aa} (hl:l.length<=maxLen) (hN:l.length<N):lY N l n kf=kf (AP l n):=by unfold lY;rw[KW hl hN,KK (λi x s=>bif x==n then wrap .i64 (s+1) else s) (λi x s next h e=>by cases x==n<;>rfl)];rfl
theorem xN {N:Nat} {l:List Int} {n:Int} {kf:Int->Option aa} (hl:l.length<=maxLen) (hN:l.length<N):kM N l n kf=kf (AP l n):=by unfold kM;rw[Qn hl hN,KK (λi x s=>bif x==n then wrap .i64 (s+1) else s) (λi x s next h e=>by cases x==n<;>rfl)];rfl
abbrev ak.met (x:ak):List Int:=x.2.2.2.2.2
def qM (l:List ak) (i:Nat) (x:ak):Bool:=q7 x.1 1 99&&(q7 x.2.1 1 99&&(q7 x.2.2.1 0 x.met.length&&(q7 x.2.2.2.2.1 0 x.met.length&&(q7 x.2.2.2.1 0 100000&&(decide (x.met.length<=20)&&(decide (i=0)||decide ((l.getD (i - 1) an).1<x.1)))))))
def Ux (l:List ak) (x:ak) (id:Int):Bool:=!decide (au l id<0)&&(!(id==x.1)&&(AP x.met id==AP (l.getD (au l id).toNat an).met x.1))
def ar (l:List ak):Bool:=decide (l.length<=10)&&(allI (qM l) l 0&&allI (λ_ x=>x.met.all (Ux l x)) l 0)
def Xi (l:List ak) (i:Nat) (x:ak) (id:Int):Bool:=!decide (au l id<0)&&(!(au l id==(i:Int))&&(AP (l.getD (au l id).toNat an).met x.1==AP x.met (l.getD (au l id).toNat an).1))
theorem DN {α:Type} {p:α->Bool}:∀ {l:List α} {i:Nat},allI (λ_ x=>p x) l i=l.all p
 |[],_=>rfl
 |x::r,i=>by simp only[allI,List.all_cons,DN (l:=r)]
theorem K8 {l:List ak} (h:allI (qM l) l 0=true):∀ (j i:Nat) (hi:i<l.length),j<i->(l.getD j an).1<l[i].1:=by
 rw[iv] at h;have step:∀ (i:Nat) (hi:i<l.length),0<i->(l.getD (i - 1) an).1<l[i].1:=λi hi h0=>by have:=h i hi;rw[Nat.zero_add] at this;simp only[qM,Bool.and_eq_true,Bool.or_eq_true,decide_eq_true_eq] at this;omega
 intro j i hi zN;induction i with
 |zero=>omega
 |succ i ih=>
 have h1:=step (i+1) hi (by omega);rw[Nat.add_sub_cancel,af _ _ (show i<l.length by omega)] at h1;rcases Nat.lt_or_eq_of_le (Nat.le_of_lt_succ zN) with h2 |rfl
 ·have:=ih (by omega) h2;omega
 rw[af _ _ (by omega)];exact h1
theorem SX {l:List ak} (h:allI (qM l) l 0=true) {i:Nat} (hi:i<l.length) {id:Int}:au l id=(i:Int)↔id=l[i].1:=by
 constructor
 ·intro e;obtain⟨k,hk,e1,h1,_⟩:=ck (p:=λx:ak=>x.1==id) (l:=l) (by unfold au at e;omega);unfold au at e;obtain rfl:k=i:=by omega
  exact(beq_iff_eq.1 h1).symm
 rintro rfl;unfold au;by_cases hn:oh (λx:ak=>x.1==l[i].1) l<0
 ·have:=(IK hn).2 i hi;simp at this
 obtain⟨k,hk,e1,h1,h2⟩:=ck hn;rw[e1];have h1:l[k].1=l[i].1:=by simpa using h1
 rcases Nat.lt_trichotomy k i with du |rfl |du
 ·have:=K8 h k i hi du;rw[af _ _ hk] at this;omega
 ·rfl
 have:=h2 i du;simp at this
theorem ala {l:List ak} (h:allI (qM l) l 0=true) {i:Nat} (hi:i<l.length) (id:Int):Xi l i l[i] id=Ux l l[i] id:=by
 unfold Xi Ux;by_cases hn:au l id<0
 ·simp[hn]
 rw[decide_eq_false hn,Bool.not_false,Bool.true_and,Bool.true_and];have e1:(au l id==(i:Int))=(id==l[i].1):=by apply Bool.eq_iff_iff.2;rw[beq_iff_eq,beq_iff_eq];exact SX h hi
 rw[e1];obtain⟨k,hk,e2,h2,_⟩:=ck (p:=λx:ak=>x.1==id) hn;have e3:au l id=(k:Int):=e2;rw[e3,toNat_natCast,af _ _ hk,show l[k].1=id by simpa using h2];congr 1;apply Bool.eq_iff_iff.2;rw[beq_iff_eq,beq_iff_eq];exact⟨λh=>h.symm,λh=>h.symm⟩
theorem ZN (l:List ak):(allI (λi x=>qM l i x&&x.met.all (Xi l i x)) l 0&&decide (l.length<=10))=ar l:=by
 unfold ar;rw[SW];cases h:allI (qM l) l 0 with
 |false=>simp
 |true=>have:allI (λi x=>x.met.all (Xi l i x)) l 0=allI (λ_ x=>x.met.all (Ux l x)) l 0:=acq λj hj=>(by congr 1;funext id;exact ala h hj id);rw[this];cases decide (l.length<=10)<;>simp
theorem c7 {N:Nat} {l:List ak} {kf:Bool->Option aa} (hl:l.length<=maxLen) (hm:∀ x∈l,x.met.length<=maxLen/\x.met.length<N) (hN:l.length<N):bW N l kf=kf (ar l):=by
 unfold bW;rw[KY hl hN,lA (l:=l) (p:=λi x=>qM l i x&&x.met.all (Xi l i x)) (kf:=kf false) (λi x next h e=>?_) l 0 rfl,←ZN]
 ·cases allI (λi x=>qM l i x&&x.met.all (Xi l i x)) l 0
  ·rfl
  simp only[cond_true,Bool.true_and];congr 1;apply Bool.eq_iff_iff.2;simp;omega
 have hx:x∈l:=by rw[←e];exact List.getElem_mem h
 obtain⟨m1,m2⟩:=hm x hx;have inner:cC N l (i:Int) x N next kf (0:Int)=bif x.met.all (Xi l i x) then next else kf false:=by
  rw[KX m1 m2,lA (l:=x.met) (p:=λ_ id=>Xi l i x id) (kf:=kf false) (λj id next' hj ej=>?_) x.met 0 rfl,DN];rw[c6 hl hN];unfold Xi;by_cases hn:au l id<0
  ·simp[hn]
  rw[decide_eq_false hn,cond_false,Bool.not_false,Bool.true_and];cases hf:au l id==(i:Int)
  ·obtain⟨k,hk,e2,h2,_⟩:=ck (p:=λx:ak=>x.1==id) hn;have e3:au l id=(k:Int):=e2;obtain⟨q1,q2⟩:=hm l[k] (List.getElem_mem hk);rw[cond_false,e3,ai hk,cond_true,cond_true,toNat_natCast,af _ _ hk,DM q1 q2,DM m1 m2];cases hc:(AP l[k].met x.1==AP x.met l[k].1)<;>simp[bne,hc]
  simp
 have ord:∀ A B:Option aa,(bif (decide ((i:Int)>(0:Int))) then
   bif (aD (wrap .i64 ((i:Int) - (1:Int))) (length l)) then
    bif (decide ((getD l (toNat (wrap .i64 ((i:Int) - (1:Int)))) an).1≥x.1)) then A else B
   else none
  else B)=bif (decide (i=0)||decide ((l.getD (i - 1) an).1<x.1)) then B else A:=λA B=>by
  by_cases h0:i=0
  ·subst h0;simp
  ·rw[decide_eq_true (show(i:Int)>0 by omega),cond_true,DL (by omega) h hl,ai (by omega),cond_true,toNat_natCast,decide_eq_false h0,Bool.false_or]
   by_cases hc:(l.getD (i - 1) an).1<x.1
   ·rw[decide_eq_false (by omega),decide_eq_true hc];rfl
   ·rw[decide_eq_true (by omega),decide_eq_false hc];rfl
 simp only[ka,inner,ord];unfold qM;cases q7 x.1 1 99<;>simp;cases q7 x.2.1 1 99<;>simp;cases q7 x.2.2.1 0 x.met.length<;>simp;cases q7 x.2.2.2.2.1 0 x.met.length<;>simp;cases q7 x.2.2.2.1 0 100000<;>simp;by_cases Oe:x.met.length<=20
 ·rw[decide_eq_false (show ¬(20:Int)<(x.met.length:Int) by omega),decide_eq_true Oe];simp;cases (decide (i=0)||decide ((l[i - 1]?.getD an).1<x.1))<;>simp
 rw[decide_eq_true (show(20:Int)<(x.met.length:Int) by omega),decide_eq_false Oe];simp
theorem c8 {N:Nat} {l:List ak} {kf:Bool->Option aa} (hl:l.length<=maxLen) (hm:∀ x∈l,x.met.length<=maxLen/\x.met.length<N) (hN:l.length<N):cK N l kf=kf (ar l):=by
 unfold cK
 by_cases h10:l.length<=10
 rotate_left
 ·rw[decide_eq_true (by omega),cond_true]
  unfold ar
  rw[decide_eq_false h10]
  rfl
 rw[decide_eq_false (by omega),cond_false]
 rw[K2 hl hN,lA (l:=l) (p:=λi x=>qM l i x&&x.met.all (Ux l x)) (kf:=kf false) (λi x next h e=>?_) l 0 rfl]
 ·unfold ar
  rw[decide_eq_true h10,Bool.true_and,SW]
  cases (allI (qM l) l 0&&allI (λ_ x=>x.met.all (Ux l x)) l 0)<;>rfl
 ·have hx:x∈l:=by rw[←e];exact List.getElem_mem h
  obtain⟨m1,m2⟩:=hm x hx
  have inner:cJ N l x l (length l:Int) (i:Int) x.2.2.2.2.2 (length x.2.2.2.2.2:Int) N next kf (0:Int)=bif x.met.all (Ux l x) then next else kf false:=by
   rw[I' m1 m2,lA (l:=x.met) (p:=λ_ id=>Ux l x id) (kf:=kf false) (λj id next' hj ej=>?_) x.met 0 rfl,DN]
   rw[cF hl hN]
   unfold Ux
   by_cases hn:au l id<0
   ·simp[hn]
   ·rw[decide_eq_false hn,cond_false,Bool.not_false,Bool.true_and]
    cases hf:id==x.1
    ·obtain⟨k,hk,e2,h2,_⟩:=ck (p:=λx:ak=>x.1==id) hn
     have e3:au l id=(k:Int):=e2
     obtain⟨q1,q2⟩:=hm l[k] (List.getElem_mem hk)
     rw[cond_false,e3,ai hk,cond_true,toNat_natCast,af _ _ hk,xN m1 m2,xN q1 q2]
     cases hc:(AP x.met id==AP l[k].met x.1)<;>simp[bne,hc]
    ·simp
  have ord:∀ A B:Option aa,(bif (decide ((i:Int)>(0:Int))) then
    bif (aD (wrap .i64 ((i:Int) - (1:Int))) (length l)) then
     bif (decide (x.1<=(getD l (toNat (wrap .i64 ((i:Int) - (1:Int)))) an).1)) then A else B
    else none
   else B)=bif (decide (i=0)||decide ((l.getD (i - 1) an).1<x.1)) then B else A:=λA B=>by
   by_cases h0:i=0
   ·subst h0;simp
   ·rw[decide_eq_true (show(i:Int)>0 by omega),cond_true,DL (by omega) h hl,ai (by omega),cond_true,toNat_natCast,decide_eq_false h0,Bool.false_or]
    by_cases hc:(l.getD (i - 1) an).1<x.1
    ·rw[decide_eq_false (by omega),decide_eq_true hc];rfl
    ·rw[decide_eq_true (by omega),decide_eq_false hc];rfl
  simp only[fw,inner,ord]
  unfold qM
  cases q7 x.1 1 99<;>simp
  cases (decide (i=0)||decide ((l[i - 1]?.getD an).1<x.1))<;>simp
  cases q7 x.2.1 1 99<;>simp
  by_cases Oe:x.met.length<=20
  ·rw[decide_eq_false (show ¬(20:Int)<(x.met.length:Int) by omega),decide_eq_true Oe]
   simp
   cases q7 x.2.2.1 0 x.met.length<;>simp
   cases q7 x.2.2.2.2.1 0 x.met.length<;>simp
   cases q7 x.2.2.2.1 0 100000<;>simp
  ·rw[decide_eq_true (show(20:Int)<(x.met.length:Int) by omega),decide_eq_false Oe]
   simp
end Go.Pv.R
namespace Go.Pv
open List Int IntKind
def gO {α β:Type} (c:Nat->α->Bool) (f:Nat->α->β):List α->Nat->List β
 |[],_=>[]
 |x::r,i=>bif c i x then f i x::gO c f r (i+1) else gO c f r (i+1)
theorem qa {α β:Type} {c:Nat->α->Bool} {f:Nat->α->β}:∀ (l:List α) (i:Nat),(gO c f l i).length<=l.length
 |[],_=>Nat.le_refl _
 |x::r,i=>by simp only[gO];have:=qa (c:=c) (f:=f) r (i+1);cases c i x<;>simp<;>omega
theorem nr {α β:Type} {body:Nat->α->List β->(List β->Option aa)->Option aa} {eB:List β->Option aa} {c:Nat->α->Bool} {f:Nat->α->β} {l:List α} (hb:∀ (i:Nat) (x:α) (s:List β) (next:List β->Option aa) (h:i<l.length),l[i]=x->s.length<=i->body i x s next=bif c i x then next (s++[f i x]) else next s): ∀ (r:List α) (i:Nat) (s:List β),l.drop i=r->s.length<=i->dV body eB r i s=eB (s++gO c f r i)
 |[],i,s,_,_=>by simp[dV,gO]
 |x::r,i,s,hd,hs=>by
  have du:i<l.length:=(by have:=congrArg length hd;simp at this;omega);rw[List.drop_eq_getElem_cons du] at hd;injection hd with h1 h2;simp only[dV,gO];rw[hb i x s _ du h1 hs];cases c i x
  ·rw[cond_false,cond_false];exact nr hb r (i+1) s h2 (by omega)
  rw[cond_true,cond_true,nr hb r (i+1) (s++[f i x]) h2 (by simp;omega)];simp
theorem aso {a b k:Nat} (h:a+b<=4000000000000/k) (hk:0<k):decide ((a+b)*k<=4398046511104)=true:=by refine decide_eq_true ?_;have:=Nat.mul_le_mul_right k h;have:=Nat.div_mul_le_self 4000000000000 k;omega
theorem VL {α:Type} (p:α->Bool) (l:List α):decide (oh p l≥0)=l.any p:=by
 by_cases h:oh p l<0
 ·rw[decide_eq_false (by omega)];symm;rw[List.any_eq_false];intro x hx;obtain⟨j,hj,rfl⟩:=List.mem_iff_getElem.1 hx;rw[(IK h).2 j hj];simp
 rw[decide_eq_true (by omega)];symm;rw[List.any_eq_true];obtain⟨k,hk,_,h1,_⟩:=ck h;exact⟨l[k],List.getElem_mem hk,h1⟩
theorem OW (n:Int):∀ (l:List Int) (i:Nat) (s:Nat),s+l.length<=maxLen->foldI (λ_ x s=>bif x==n then wrap .i64 (s+1) else s) l i (s:Int)=((s+l.count n:Nat):Int)
 |[],_,_,_=>by simp[foldI]
 |x::r,i,s,h=>by
  simp only[foldI,List.count_cons];simp only[List.length_cons] at h;have:=aq;cases hx:x==n with
  |false=>simp only[cond_false];rw[OW n r (i+1) s (by omega)];simp
  |true=>simp only[cond_true,if_true];rw[wrap64 (by omega) (by omega),show((s:Int)+1)=((s+1:Nat):Int) by omega,OW n r (i+1) (s+1) (by omega)];congr 1;omega
theorem SY {b:List Int} (hb:b.Nodup):∀ (a:List Int),(∀ x∈a,x∈b)->(b.map λx=>a.count x).sum=a.length
 |[],_=>by
  have:∀ l:List Int,(l.map λx=>([]:List Int).count x).sum=0:=by
   intro l;induction l with
   |nil=>rfl
   |cons x r ih=>rw[List.map_cons,List.sum_cons,ih];simp
  rw[this];rfl
 |y::a,h=>by
  have ih:=SY hb a (λx hx=>h x (by simp[hx]));have hy:=h y (by simp);have key:∀ l:List Int,(l.map λx=>(y::a).count x).sum=(l.map λx=>a.count x).sum+l.count y:=by
   intro l;induction l with
   |nil=>rfl
   |cons x r ihl=>
   rw[List.map_cons,List.sum_cons,ihl,List.map_cons,List.sum_cons,List.count_cons,List.count_cons];by_cases Of:y=x
   ·subst Of;simp;omega
   have h1:(y==x)=false:=(by simpa using Of);have h2:(x==y)=false:=(by simpa using λe=>Of e.symm);rw[h1,h2];simp;omega
  rw[key,ih,List.length_cons];have:b.count y=1:=(by have h1:=List.count_pos_iff.2 hy;have h2:=List.nodup_iff_count.1 hb y;omega);omega
theorem alb {b:List Int} {f:Int->Nat} (h1:∀ x∈b,f x<=1) (h2:(b.map f).sum=b.length):∀ x∈b,f x=1:=by
 have le:∀ l:List Int,(∀ x∈l,f x<=1)->(l.map f).sum<=l.length:=by
  intro l;induction l with
  |nil=>intro _;simp
  |cons x r ih=>intro h;have:=ih (λy hy=>h y (by simp[hy]));have:=h x (by simp);simp;omega
 induction b with
 |nil=>intro x hx;cases hx
 |cons y r ih=>
 have hr:=le r (λx hx=>h1 x (by simp[hx]));have hy:=h1 y (by simp);simp only[List.map_cons,List.sum_cons,List.length_cons] at h2;intro x hx;rcases List.mem_cons.1 hx with rfl |hx
 ·omega
 exact ih (λx hx=>h1 x (by simp[hx])) (by omega) x hx
theorem ZO {a b:List Int} (hb:b.Nodup) (h:∀ x∈a,x∈b):(∀ x∈b,a.count x=1)↔a.Nodup/\a.length=b.length:=by
 have hs:=SY hb a h;constructor
 ·intro h1;refine⟨List.nodup_iff_count.2 λx=>?_,?_⟩
  ·by_cases hx:x∈a
   ·rw[h1 x (h x hx)];exact Nat.le_refl _
   rw[List.count_eq_zero_of_not_mem hx];omega
  have key:∀ l:List Int,(∀ x∈l,a.count x=1)->(l.map λx=>a.count x).sum=l.length:=by
   intro l;induction l with
   |nil=>intro _;rfl
   |cons x r ih=>intro h;simp[ih (λy hy=>h y (by simp[hy])),h x (by simp)];omega
  rw[key b h1] at hs;exact hs.symm
 intro ⟨h1,h2⟩;exact alb (λx _=>List.nodup_iff_count.1 h1 x) (by rw[hs,h2])
end Go.Pv
namespace Go.Pv.R
open List Int IntKind
abbrev bc:=QJ
abbrev cW:=bE
theorem IL {l:List Int} {n:Int} (h:l.length<=maxLen):AP l n=(l.count n:Int):=by have:=OW n l 0 0 (by omega);rw[Nat.zero_add] at this;exact this
def Ab (l:List Int) (n:Int):Bool:=l.any λx=>x==n
theorem yc {l:List Int} {n:Int}:Ab l n=true↔n∈l:=by
 unfold Ab;rw[List.any_eq_true];constructor
 ·rintro⟨x,hx,h⟩;have:x=n:=by simpa using h
  exact this▸hx
 intro h;exact⟨n,h,by simp⟩
theorem l6 {N:Nat} {l:List Int} {n:Int} {kf:Bool->Option aa} (hl:l.length<=maxLen) (hN:l.length<N):fM N l n kf=kf (Ab l n):=by
 unfold fM;rw[Qm hl hN,uR (p:=λx:Int=>x==n) (kf:=λ_=>kf true) (λi x next=>rfl)];unfold Ab;rw[←VL];unfold oh;cases ru (λx:Int=>x==n) l 0
 ·rfl
 rw[decide_eq_true (by simp)]
theorem kd {N:Nat} {l:List Int} {n:Int} {kf:Bool->Option aa} (hl:l.length<=maxLen) (hN:l.length<N):bp N l n kf=kf (Ab l n):=by
 unfold bp iG;rw[we hl hN,uR (p:=λx:Int=>n==x) (kf:=λi=>kf (decide ((i:Int)≥0))) (λi x next=>rfl)];have e:Ab l n=l.any λx=>n==x:=by unfold Ab;congr 1;funext x;apply Bool.eq_iff_iff.2;rw[beq_iff_eq,beq_iff_eq];exact⟨λh=>h.symm,λh=>h.symm⟩
 rw[e,←VL];unfold oh;cases ru (λx:Int=>n==x) l 0<;>rfl
def dA (l:List bc) (id:Int):Int:=oh (λx:bc=>x.1==id) l
theorem F6 {N:Nat} {l:List bc} {id:Int} {kf:Int->Option aa} (hl:l.length<=maxLen) (hN:l.length<N):gD N l id kf=kf (dA l id):=by unfold gD;rw[MK hl hN,uR (p:=λx:bc=>x.1==id) (kf:=λi=>kf (i:Int)) (λi x next=>rfl)];unfold dA oh;cases ru (λx:bc=>x.1==id) l 0<;>rfl
theorem nU {N:Nat} {l:List bc} {id:Int} {kf:Int->Option aa} (hl:l.length<=maxLen) (hN:l.length<N):bu N l id kf=kf (dA l id):=by unfold bu;rw[mX hl hN];simp only[qA];rw[uR (p:=λx:bc=>x.1==id) (kf:=λi=>kf (i:Int)) (λi x next=>rfl)];unfold dA oh;cases ru (λx:bc=>x.1==id) l 0<;>rfl
theorem yM {N:Nat} {l:List bc} {id:Int} {kf:Int->Option aa} (hl:l.length<=maxLen) (hN:l.length<N):j8 N l id kf=kf (dA l id):=by unfold j8 ee;rw[nS hl hN];simp only[uD];rw[uR (p:=λx:bc=>x.1==id) (kf:=λi=>kf (i:Int)) (λi x next=>rfl)];unfold dA oh;cases ru (λx:bc=>x.1==id) l 0<;>rfl
def ZP (s:List Int):Bool:=allI (λi y=>q7 y 1 99&&(decide (i=0)||decide (s.getD (i - 1) 0<y))) s 0
def AQ (l:List bc) (i:Nat) (x:bc):Bool:=q7 x.1 1 99&&(q7 x.2.1 1 99&&((decide (i=0)||decide ((l.getD (i - 1) dY).1<x.1))&&ZP x.2.2))
def cf (l:List bc):Bool:=decide (l.length<=10)&&allI (AQ l) l 0
theorem acr {α:Type} {l:List α} {i:Nat} {z:α} {g:α->Int} {y:Int} {A B:Option aa} (hi:i<l.length) (hl:l.length<=maxLen):(bif (decide ((i:Int)>(0:Int))) then bif (aD (wrap .i64 ((i:Int) - (1:Int))) (length l)) then bif (decide (y<=g (getD l (toNat (wrap .i64 ((i:Int) - (1:Int)))) z))) then A else B else none else B)=bif (decide (i=0)||decide (g (l.getD (i - 1) z)<y)) then B else A:=by
 by_cases h0:i=0
 ·subst h0;simp
 rw[decide_eq_true (show(i:Int)>0 by omega),cond_true,DL (by omega) hi hl,ai (by omega),cond_true,toNat_natCast,decide_eq_false h0,Bool.false_or];by_cases hc:g (l.getD (i - 1) z)<y
 ·rw[decide_eq_false (by omega),decide_eq_true hc];rfl
 rw[decide_eq_true (by omega),decide_eq_false hc];rfl
theorem ad9 {α:Type} {l:List α} {i:Nat} {z:α} {g:α->Int} {y:Int} {A B:Option aa} (hi:i<l.length) (hl:l.length<=maxLen):(bif (decide ((i:Int)>(0:Int))) then bif (aD (wrap .i64 ((i:Int) - (1:Int))) (length l)) then bif (decide (g (getD l (toNat (wrap .i64 ((i:Int) - (1:Int)))) z)≥y)) then A else B else none else B)=bif (decide (i=0)||decide (g (l.getD (i - 1) z)<y)) then B else A:=acr hi hl
theorem uS {N:Nat} {l:List bc} {kf:Bool->Option aa} (hl:l.length<=maxLen) (hm:∀ x∈l,x.2.2.length<=maxLen/\x.2.2.length<N) (hN:l.length<N):mM N l kf=kf (cf l):=by
 unfold mM;rw[I5 hl hN,lA (l:=l) (p:=AQ l) (kf:=kf false) (λi x next h e=>?_) l 0 rfl]
 ·unfold cf;cases allI (AQ l) l 0
  ·simp
  simp only[cond_true,Bool.and_true];congr 1;apply Bool.eq_iff_iff.2;simp;omega
 have hx:x∈l:=by rw[←e];exact List.getElem_mem h
 obtain⟨m1,m2⟩:=hm x hx;have inner:bP N l (i:Int) N next kf (0:Int)=bif ZP x.2.2 then next else kf false:=by
  have hg:getD l (toNat (i:Int)) dY=x:=(by rw[toNat_natCast,af _ _ h,e]);rw[I4 (ai h) (by rw[hg];exact m1) (by rw[hg];exact m2)];simp only[hg];rw[lA (l:=x.2.2) (p:=λi y=>q7 y 1 99&&(decide (i=0)||decide (x.2.2.getD (i - 1) 0<y))) (kf:=kf false) (λj y next' hj ej=>?_) x.2.2 0 rfl]
  ·rfl
  rw[ka];have:=ad9 (l:=x.2.2) (z:=(0:Int)) (g:=λx=>x) (y:=y) (A:=kf false) (B:=next') hj m1;rw[this];cases q7 y 1 99<;>simp
 simp only[ka,inner];have ho:=λA B=>ad9 (l:=l) (z:=dY) (g:=λx=>x.1) (y:=x.1) (A:=A) (B:=B) h hl;simp only[ho];unfold AQ;cases q7 x.1 1 99<;>simp;cases q7 x.2.1 1 99<;>simp;cases (decide (i=0)||decide ((l[i - 1]?.getD dY).1<x.1))<;>simp
theorem uT {N:Nat} {l:List bc} {kf:Bool->Option aa} (hl:l.length<=maxLen) (hm:∀ x∈l,x.2.2.length<=maxLen/\x.2.2.length<N) (hN:l.length<N):mT N l kf=kf (cf l):=by
 unfold mT
 by_cases h10:l.length<=10
 rotate_left
 ·rw[decide_eq_true (by omega),cond_true]
  unfold cf
  rw[decide_eq_false h10]
  rfl
 rw[decide_eq_false (by omega),cond_false]
 rw[Jb hl hN,lA (l:=l) (p:=AQ l) (kf:=kf false) (λi x next h e=>?_) l 0 rfl]
 ·unfold cf
  rw[decide_eq_true h10,Bool.true_and]
  cases allI (AQ l) l 0<;>rfl
 ·have hx:x∈l:=by rw[←e];exact List.getElem_mem h
  obtain⟨m1,m2⟩:=hm x hx
  have inner:ca N l x l (length l:Int) (i:Int) x.2.2 (length x.2.2:Int) N next kf (0:Int)=bif ZP x.2.2 then next else kf false:=by
   rw[Ja m1 m2]
   rw[lA (l:=x.2.2) (p:=λi y=>q7 y 1 99&&(decide (i=0)||decide (x.2.2.getD (i - 1) 0<y))) (kf:=kf false) (λj y next' hj ej=>?_) x.2.2 0 rfl]
   ·rfl
   ·rw[fw]
    have:=acr (l:=x.2.2) (z:=(0:Int)) (g:=λx=>x) (y:=y) (A:=kf false) (B:=next') hj m1
    rw[this]
    cases q7 y 1 99<;>simp
  simp only[fw,inner]
  have ho:=λA B=>acr (l:=l) (z:=dY) (g:=λx=>x.1) (y:=x.1) (A:=A) (B:=B) h hl
  simp only[ho]
  unfold AQ
  cases q7 x.1 1 99<;>simp
  cases q7 x.2.1 1 99<;>simp
  cases (decide (i=0)||decide ((l[i - 1]?.getD dY).1<x.1))<;>simp
def P9 (l:List ak) (id:Int):Int:=(l.getD (au l id).toNat an).2.1
def asp (l:List ak) (id:Int):List Int:=(l.getD (au l id).toNat an).met
def DO (l:List ak) (a b:Int):Bool:=decide (au l a≥0)&&Ab (asp l a) b
def dQ (l:List ak) (a b:Int):Bool:=ar l&&(decide (au l a≥0)&&(decide (au l b≥0)&&((au l a != au l b)&&((P9 l a != P9 l b)&& !DO l a b))))
theorem lI {l:List ak} {id:Int} (h:au l id≥0):aD (au l id) l.length=true/\(au l id).toNat<l.length:=by obtain⟨k,hk,e,_⟩:=ck (p:=λx:ak=>x.1==id) (l:=l) (by unfold au at h;omega);have e:au l id=(k:Int):=e;rw[e];exact⟨ai hk,by simpa using hk⟩
theorem Qp {N:Nat} {l:List ak} {a b:Int} {kf:Bool->Option aa} (hl:l.length<=maxLen) (hm:∀ x∈l,x.met.length<=maxLen/\x.met.length<N) (hN:l.length<N):zS N l a b kf=kf (DO l a b):=by
 unfold zS DO;rw[c6 hl hN];by_cases h:au l a≥0
 ·obtain⟨h1,h2⟩:=lI h;have hx:l.getD (au l a).toNat an∈l:=(by rw[af _ _ h2];exact List.getElem_mem h2);obtain⟨m1,m2⟩:=hm _ hx;rw[decide_eq_true h,cond_true,h1,cond_true,l6 m1 m2];rfl
 rw[decide_eq_false h];rfl
theorem Qq {N:Nat} {l:List ak} {a b:Int} {kf:Bool->Option aa} (hl:l.length<=maxLen) (hm:∀ x∈l,x.met.length<=maxLen/\x.met.length<N) (hN:l.length<N):z7 N l a b kf=kf (DO l a b):=by
 unfold z7 DO;rw[cF hl hN];by_cases h:au l a≥0
 ·obtain⟨h1,h2⟩:=lI h;have hx:l.getD (au l a).toNat an∈l:=(by rw[af _ _ h2];exact List.getElem_mem h2);obtain⟨m1,m2⟩:=hm _ hx;rw[decide_eq_true h,cond_true,h1,cond_true,kd m1 m2];rfl
 rw[decide_eq_false h];rfl
theorem F7 {N:Nat} {l:List ak} {a b:Int} {kf:Bool->Option aa} (hl:l.length<=maxLen) (hm:∀ x∈l,x.met.length<=maxLen/\x.met.length<N) (hN:l.length<N):nH N l a b kf=kf (dQ l a b):=by
 unfold nH dQ
 rw[c6 hl hN,c6 hl hN,c7 hl hm hN]
 cases ar l
 ·rfl
 by_cases ha:au l a≥0
 rotate_left
 ·rw[decide_eq_false ha];rfl
 by_cases hb:au l b≥0
 rotate_left
 ·rw[decide_eq_true ha,decide_eq_false hb];rfl
 rw[decide_eq_true ha,decide_eq_true hb,(lI ha).1,(lI hb).1,Qp hl hm hN]
 simp only[cond_true,Bool.true_and]
 cases au l a != au l b
 ·rfl
 unfold P9
 cases (l.getD (au l a).toNat an).2.1 != (l.getD (au l b).toNat an).2.1<;>rfl
theorem F8 {N:Nat} {l:List ak} {a b:Int} {kf:Bool->Option aa} (hl:l.length<=maxLen) (hm:∀ x∈l,x.met.length<=maxLen/\x.met.length<N) (hN:l.length<N):nM N l a b kf=kf (dQ l a b):=by
 unfold nM dQ
 rw[cF hl hN,cF hl hN,c8 hl hm hN]
 cases ar l
 ·rfl
 by_cases ha:au l a≥0
 rotate_left
 ·rw[decide_eq_false ha];rfl
 by_cases hb:au l b≥0
 rotate_left
 ·rw[decide_eq_true ha,decide_eq_false hb];rfl
 rw[decide_eq_true ha,decide_eq_true hb,(lI ha).1,(lI hb).1,Qq hl hm hN]
 simp only[cond_true,Bool.true_and]
 cases au l a != au l b
 ·rfl
 unfold P9
 cases (l.getD (au l a).toNat an).2.1 != (l.getD (au l b).toNat an).2.1<;>rfl
def SZ (t:List ak) (j:bc) (id:Int):Bool:=decide (au t id≥0)&&((P9 t id != j.2.1)&& !Ab j.2.2 id)
def iM (t:List ak) (j:bc) (p:cW):Bool:=SZ t j p.1&&SZ t j p.2
theorem DP {N:Nat} {t:List ak} {j:bc} {p:cW} {kf:Bool->Option aa} (hl:t.length<=maxLen) (hN:t.length<N) (h1:j.2.2.length<=maxLen) (h2:j.2.2.length<N):oS N t j p kf=kf (iM t j p):=by
 unfold oS iM SZ
 rw[c6 hl hN,c6 hl hN]
 by_cases ha:au t p.1≥0
 rotate_left
 ·rw[decide_eq_false ha];rfl
 by_cases hb:au t p.2≥0
 rotate_left
 ·rw[decide_eq_true ha,decide_eq_false hb];simp
 rw[decide_eq_true ha,decide_eq_true hb,(lI ha).1,(lI hb).1,l6 h1 h2]
 simp only[l6 h1 h2,cond_true,Bool.true_and]
 unfold P9
 cases (t.getD (au t p.1).toNat an).2.1 != j.2.1
 ·rfl
 cases (t.getD (au t p.2).toNat an).2.1 != j.2.1
 ·simp
 cases Ab j.2.2 p.1<;>simp
theorem xm {N:Nat} {t:List ak} {j:bc} {p:cW} {kf:Bool->Option aa} (hl:t.length<=maxLen) (hN:t.length<N) (h1:j.2.2.length<=maxLen) (h2:j.2.2.length<N) (h3:2<N):kn N t j p kf=kf (iM t j p):=by
 have key:∀ (id:Int) (next:Option aa),(bL N t id (λ(x9:Int)=>
     bif (decide (x9<(0:Int))) then
      kf false
     else
      bif (aD x9 (length t)) then
       bif ((getD t (toNat x9) an).2.1==j.2.1) then
        kf false
       else
        bp N j.2.2 id (λ(Hj:Bool)=>
         bif Hj then
          kf false
         else
          next)
      else none))=bif SZ t j id then next else kf false:=λid next=>by
  rw[cF hl hN]
  unfold SZ
  by_cases ha:au t id≥0
  rotate_left
  ·rw[decide_eq_false ha,decide_eq_true (by omega)];rfl
  rw[decide_eq_true ha,decide_eq_false (by omega),(lI ha).1,kd h1 h2]
  simp only[cond_true,cond_false,Bool.true_and]
  unfold P9
  cases hc:(t.getD (au t id).toNat an).2.1==j.2.1
  ·simp only[bne,hc,Bool.not_false,Bool.true_and,cond_false]
   cases Ab j.2.2 id<;>rfl
  ·simp only[bne,hc,Bool.not_true,Bool.false_and,cond_false,cond_true]
 unfold kn;rw[K4 (by rw[aq];simp) (by simpa using h3)];simp only[ud,key];unfold iM;cases SZ t j p.1
 ·rfl
 simp;cases SZ t j p.2<;>rfl
end Go.Pv.R
namespace Go.Pv.R
open List Int IntKind
theorem MO {N:Nat} {l:List ak} {kf:Int->Option aa} (hl:l.length<=maxLen) (hm:∀ x∈l,x.met.length<=maxLen/\x.met.length<N) (hN:l.length<N):ui N l kf=kf (bif ar l then foldI (λ_ (x:ak) s=>wrap .i64 (s+x.2.2.1)) l 0 0 else 0):=by
 unfold ui;rw[I6 hl hN];simp only[c7 hl hm hN];cases ar l with
 |false=>cases l<;>rfl
 |true=>simp only[cond_true];rw[KK (λ_ (x:ak) s=>wrap .i64 (s+x.2.2.1)) (λi x s next h e=>rfl)]
theorem MP {N:Nat} {l:List ak} {kf:Int->Option aa} (hl:l.length<=maxLen) (hm:∀ x∈l,x.met.length<=maxLen/\x.met.length<N) (hN:l.length<N):uz N l kf=kf (bif ar l then foldI (λ_ (x:ak) s=>wrap .i64 (s+x.2.2.1)) l 0 0 else 0):=by
 unfold uz;rw[c8 hl hm hN];cases ar l with
 |false=>rfl
 |true=>simp only[cond_true,Bool.not_true,cond_false];rw[Jd hl hN,KK (λ_ (x:ak) s=>wrap .i64 (s+x.2.2.1)) (λi x s next h e=>rfl)]
def AR (l:List ak):Int:=bif ar l then foldI (λ_ (x:ak) s=>wrap .i64 (s+x.2.2.1)) l 0 0 else 0
abbrev l7:=QB
def cS (b:l7):Bool:=q7 b.1 1 99&&(q7 b.2.1 0 100&&(q7 b.2.2 0 100&&(b.2.1 != b.2.2)))
theorem xn {N:Nat} {b:l7} {kf:Bool->Option aa}:kj N b kf=kf (cS b):=by unfold kj cS;simp only[ka];cases q7 b.1 1 99<;>simp;cases q7 b.2.1 0 100<;>simp;cases q7 b.2.2 0 100<;>simp
theorem xo {N:Nat} {b:l7} {kf:Bool->Option aa}:ko N b kf=kf (cS b):=by unfold ko cS;simp only[fw];cases q7 b.1 1 99<;>simp;cases q7 b.2.1 0 100<;>simp;cases q7 b.2.2 0 100<;>simp
def gP (r:List cW):List Int:=r.flatMap λp=>[p.1,p.2]
def uU (l:List ak):List Int:=l.map λx=>x.1
def lJ (l:List ak) (r:List cW):Bool:=r.all (λp=>dQ l p.1 p.2)&&l.all (λx=>decide ((gP r).count x.1=1))
theorem afD (r:List cW):(gP r).length=2*r.length:=by
 induction r with
 |nil=>rfl
 |cons p r ih=>simp only[gP,List.flatMap_cons,List.length_append,List.length_cons,List.length_nil] at*;omega
theorem qb {l:List ak} {a b:Int} (h:dQ l a b=true):ar l=true/\a∈uU l/\b∈uU l/\a≠b:=by
 unfold dQ at h;simp only[Bool.and_eq_true,decide_eq_true_eq] at h;obtain⟨h0,ha,hb,wU,_⟩:=h;have mem:∀ id:Int,au l id≥0->id∈uU l:=λid hid=>by obtain⟨k,hk,_,h1,_⟩:=ck (p:=λx:ak=>x.1==id) (l:=l) (by unfold au at hid;omega);exact List.mem_map.2 ⟨l[k],List.getElem_mem hk,by simpa using h1⟩
 refine⟨h0,mem a ha,mem b hb,λe=>?_⟩;subst e;simp at wU
theorem yd {l:List ak} (h:ar l=true):(uU l).Nodup:=by
 unfold ar at h;simp only[Bool.and_eq_true] at h;have hm:=K8 h.2.1;have key:∀ (n:Nat) (r:List ak),l.drop n=r->(r.map λx:ak=>x.1).Nodup:=by
  intro n r;induction r generalizing n with
  |nil=>intro _;exact List.nodup_nil
  |cons x r ih=>
  intro hd;have du:n<l.length:=by have:=congrArg length hd;simp at this;omega
  rw[List.drop_eq_getElem_cons du] at hd;injection hd with h1 h2;rw[List.map_cons,List.nodup_cons];refine⟨λhx=>?_,ih (n+1) h2⟩;obtain⟨y,hy,e⟩:=List.mem_map.1 hx;rw[←h2] at hy;obtain⟨j,hj,rfl⟩:=List.mem_iff_getElem.1 hy;rw[List.getElem_drop] at e;have hj':n+1+j<l.length:=(by simp at hj;omega);have:=hm n (n+1+j) hj' (by omega);rw[af _ _ du,h1] at this;omega
 exact key 0 l rfl
theorem Qr {N:Nat} {l:List ak} {r:List cW} {kf:Bool->Option aa} (hl:l.length<=maxLen) (hm:∀ x∈l,x.met.length<=maxLen/\x.met.length<N) (hN:l.length<N) (hr:r.length<=1048576) (hrN:2*r.length<N):z8 N l r kf=kf (lJ l r):=by
 have hML:=aq;unfold z8;rw[MM (by omega) (by omega)];have key:∀ (q:List cW) (i:Nat) (s:List Int) (eB:List Int->Option aa),r.drop i=q->s.length=2*i->dV (λ(i:Nat) (x:bE) (fZ:List Int) (next:List Int->Option aa)=>
    nM N l x.1 x.2 (λ(x9:Bool)=>
     bif (!x9) then
      kf false
     else
      bif (decide ((length fZ+length [x.1,x.2])*1<=4398046511104)) then
       next (fZ++[x.1,x.2])
      else none)) eB q i s=bif q.all (λp=>dQ l p.1 p.2) then eB (s++gP q) else kf false:=by
  intro q
  induction q with
  |nil=>intro i s eB _ _;simp[dV,gP]
  |cons p q ih=>
   intro i s eB hd hs
   have du:i<r.length:=by have:=congrArg length hd;simp at this;omega
   rw[List.drop_eq_getElem_cons du] at hd
   injection hd with h1 h2
   simp only[dV]
   rw[F8 hl hm hN]
   cases hmm:dQ l p.1 p.2 with
   |false=>simp[hmm]
   |true=>
    have tM:decide ((length s+length [p.1,p.2])*1<=4398046511104)=true:=decide_eq_true (by simp;omega)
    simp only[Bool.not_true,cond_false]
    rw[tM,cond_true,ih (i+1) _ eB h2 (by simp;omega)]
    simp[hmm,gP]
 refine Eq.trans (key r 0 [] _ rfl (by simp)) ?_;unfold lJ;cases lP:r.all (λp=>dQ l p.1 p.2) with
 |false=>rfl
 |true=>
 have hlen:(gP r).length<=maxLen/\(gP r).length<N:=by rw[afD];omega
 rw[cond_true,List.nil_append,K3 hl hN,lA (l:=l) (p:=λ_ x=>decide ((gP r).count x.1=1)) (kf:=kf false) (λi x next h e=>?_) l 0 rfl,DN (p:=λx:ak=>decide ((gP r).count x.1=1))]
 ·simp only[Bool.true_and];cases l.all λx=>decide ((gP r).count x.1=1)<;>rfl
 rw[xN hlen.1 hlen.2,IL hlen.1];by_cases h1:(gP r).count x.1=1
 ·simp[h1]
 have:(((gP r).count x.1:Int) != 1)=true:=by rw[bne_iff_ne];omega
 rw[this,decide_eq_false h1];rfl
theorem Xj {l:List ak} {r:List cW}:(r.all (λp=>dQ l p.1 p.2)&&(decide (gP r).Nodup&&(ar l&&decide ((gP r).length=l.length))))=lJ l r:=by
 unfold lJ;cases lP:r.all (λp=>dQ l p.1 p.2) with
 |false=>rfl
 |true=>
 rw[Bool.true_and,Bool.true_and];rw[List.all_eq_true] at lP;have Ui:∀ x∈gP r,x∈uU l:=λx hx=>by
  obtain⟨p,hp,hx⟩:=List.mem_flatMap.1 hx;obtain⟨_,h1,h2,_⟩:=qb (lP p hp);simp at hx;rcases hx with rfl |rfl
  ·exact h1
  exact h2
 cases ht:ar l with
 |true=>
 have:=ZO (yd ht) Ui;apply Bool.eq_iff_iff.2;rw[List.all_eq_true,Bool.true_and,Bool.and_eq_true,decide_eq_true_eq,decide_eq_true_eq];rw[show(uU l).length=l.length by simp[uU]] at this;rw[←this];constructor
 ·intro h x hx;exact decide_eq_true (h x.1 (List.mem_map.2 ⟨x,hx,rfl⟩))
 intro h x hx;obtain⟨y,hy,rfl⟩:=List.mem_map.1 hx;simpa using h y hy
 |false=>
  -- then there are no pairs,and there are teams
  cases r with
  |cons p r=>have:=(qb (lP p (by simp))).1;rw[ht] at this;cases this
  |nil=>
   cases l with
   |nil=>simp[ar,allI] at ht
   |cons x l=>simp[gP]
theorem Qs {N:Nat} {l:List ak} {r:List cW} {kf:Bool->Option aa} (hl:l.length<=maxLen) (hm:∀ x∈l,x.met.length<=maxLen/\x.met.length<N) (hN:l.length<N) (hr:r.length<=1048576) (hrN:2*r.length<N):zT N l r kf=kf (lJ l r):=by
 have hML:=aq;unfold zT;rw[MJ (by omega) (by omega)];have key:∀ (q:List cW) (i:Nat) (s:List Int) (eB:List Int->Option aa),r.drop i=q->s.length=2*i->s.Nodup->dV (λ(i:Nat) (x:bE) (aY:List Int) (next:List Int->Option aa)=>
    nH N l x.1 x.2 (λ(Ze:Bool)=>
     bif (!Ze) then
      kf false
     else
      fM N aY x.1 (λ(Zf:Bool)=>
       bif Zf then
        kf false
       else
        fM N aY x.2 (λ(Zg:Bool)=>
         bif Zg then
          kf false
         else
          bif (decide ((length aY+length [x.1,x.2])*1<=4398046511104)) then
           next (aY++[x.1,x.2])
          else none)))) eB q i s=bif q.all (λp=>dQ l p.1 p.2)&&decide (s++gP q).Nodup then eB (s++gP q) else kf false:=by
  intro q
  induction q with
  |nil=>intro i s eB _ _ UW;simp[dV,gP,UW]
  |cons p q ih=>
   intro i s eB hd hs UW
   have du:i<r.length:=by have:=congrArg length hd;simp at this;omega
   rw[List.drop_eq_getElem_cons du] at hd
   injection hd with h1 h2
   simp only[dV]
   rw[F7 hl hm hN]
   cases hmm:dQ l p.1 p.2 with
   |false=>simp[hmm]
   |true=>
    have wU:=(qb hmm).2.2.2
    have Qj:s.length<=maxLen/\s.length<N:=by omega
    have att:s++gP (p::q)=(s++[p.1,p.2])++gP q:=by simp[gP]
    simp only[Bool.not_true,cond_false]
    rw[l6 Qj.1 Qj.2]
    cases h1':Ab s p.1 with
    |true=>
     have yI:=yc.1 h1'
     have: ¬(s++gP (p::q)).Nodup:=λh=>by
      rw[List.nodup_append] at h
      exact h.2.2 p.1 yI p.1 (by simp[gP]) rfl
     rw[decide_eq_false this]
     simp
    |false=>
     rw[cond_false,l6 Qj.1 Qj.2]
     cases h2':Ab s p.2 with
     |true=>
      have yI:=yc.1 h2'
      have: ¬(s++gP (p::q)).Nodup:=λh=>by
       rw[List.nodup_append] at h
       exact h.2.2 p.2 yI p.2 (by simp[gP]) rfl
      rw[decide_eq_false this]
      simp
     |false=>
      have tM:decide ((length s+length [p.1,p.2])*1<=4398046511104)=true:=decide_eq_true (by simp;omega)
      have n1:p.1∉s:=λh=>by rw[yc.2 h] at h1';cases h1'
      have n2:p.2∉s:=λh=>by rw[yc.2 h] at h2';cases h2'
      have ago:(s++[p.1,p.2]).Nodup:=by
       rw[List.nodup_append]
       refine⟨UW,?_,?_⟩
       ·rw[List.nodup_cons]
        exact⟨by simpa using wU,by simp⟩
       ·intro a ha b hb e
        subst e
        simp at hb
        rcases hb with rfl |rfl
        ·exact n1 ha
        ·exact n2 ha
      rw[cond_false,tM,cond_true,ih (i+1) _ eB h2 (by simp;omega) ago,att]
      simp[hmm]
 refine Eq.trans (key r 0 [] _ rfl (by simp) List.nodup_nil) ?_;rw[←Xj];rw[List.nil_append];cases r.all (λp=>dQ l p.1 p.2)
 ·rfl
 cases decide (gP r).Nodup
 ·rfl
 simp only[Bool.true_and,cond_true];rw[c7 hl hm hN];cases ar l
 ·rfl
 simp only[cond_true,Bool.true_and];congr 1;apply Bool.eq_iff_iff.2;rw[beq_iff_eq,decide_eq_true_eq];omega
theorem DQ {l:List bc} {id:Int} (h:dA l id≥0):aD (dA l id) l.length=true/\(dA l id).toNat<l.length:=by obtain⟨k,hk,e,_⟩:=ck (p:=λx:bc=>x.1==id) (l:=l) (by unfold dA at h;omega);have e:dA l id=(k:Int):=e;rw[e];exact⟨ai hk,by simpa using hk⟩
def DR (t:List ak) (l:List bc) (r:List cW) (ids:List Int) (i:Nat):Bool:=decide (dA l (ids.getD i 0)≥0)&&(!Ab (ids.take i) (ids.getD i 0)&&iM t (l.getD (dA l (ids.getD i 0)).toNat dY) (r.getD i ff))
def gQ (t:List ak) (l:List bc) (r:List cW) (ids:List Int):Bool:=decide (ids.length=r.length)&&(cf l&&allI (λi _=>DR t l r ids i) r 0)
theorem MQ {N:Nat} {t:List ak} {l:List bc} {r:List cW} {ids:List Int} {kf:Bool->Option aa} (ht:t.length<=maxLen) (htN:t.length<N) (hl:l.length<=maxLen) (hm:∀ x∈l,x.2.2.length<=maxLen/\x.2.2.length<N) (hN:l.length<N)
  (hr:r.length<=maxLen) (hrN:r.length<N):uk N t l r ids kf=kf (gQ t l r ids):=by
 unfold uk gQ
 by_cases hlen:ids.length=r.length
 rotate_left
 ·have:((ids.length:Int) != (r.length:Int))=true:=by rw[bne_iff_ne];omega
  rw[this,decide_eq_false hlen];rfl
 have:((ids.length:Int) != (r.length:Int))=false:=by rw[hlen];exact bne_self_eq_false _
 rw[this,decide_eq_true hlen,cond_false,uS hl hm hN]
 cases cf l
 ·rfl
 simp only[Bool.not_true,cond_false,Bool.true_and]
 rw[I7 hr hrN,lA (l:=r) (p:=λi _=>DR t l r ids i) (kf:=kf false) (λi x next h e=>?_) r 0 rfl]
 ·cases allI (λi _=>DR t l r ids i) r 0<;>rfl
 ·have hi:i<ids.length:=by omega
  have apd:(decide ((0:Int)<=(0:Int))&&decide ((0:Int)<=(i:Int))&&decide ((i:Int)<=(length ids:Int)))=true:=by simp;omega
  rw[ai hi,cond_true,apd]
  simp only[toNat_natCast,cond_true]
  rw[F6 hl hN]
  unfold DR
  by_cases hf:dA l (ids.getD i 0)≥0
  rotate_left
  ·rw[decide_eq_false hf,decide_eq_true (by omega)];rfl
  obtain⟨f1,f2⟩:=DQ hf
  have hx:l.getD (dA l (ids.getD i 0)).toNat dY∈l:=by rw[af _ _ f2];exact List.getElem_mem f2
  obtain⟨m1,m2⟩:=hm _ hx
  rw[decide_eq_true hf,decide_eq_false (by omega),cond_false]
  have Wc:(List.drop (toNat 0) (List.take i ids))=ids.take i:=rfl
  rw[Wc,l6 (by simp;omega) (by simp;omega),f1]
  cases Ab (ids.take i) (ids.getD i 0)
  ·rw[cond_false,cond_true,DP ht htN m1 m2]
   have hrx:r.getD i ff=x:=by rw[af _ _ h,e]
   rw[hrx]
   cases iM t (l.getD (dA l (ids.getD i 0)).toNat dY) x<;>rfl
  ·rfl
theorem MR {N:Nat} {t:List ak} {l:List bc} {r:List cW} {ids:List Int} {kf:Bool->Option aa} (ht:t.length<=maxLen) (htN:t.length<N) (hl:l.length<=maxLen) (hm:∀ x∈l,x.2.2.length<=maxLen/\x.2.2.length<N) (hN:l.length<N)
  (hr:r.length<=maxLen) (hrN:r.length<N) (h2N:2<N):uy N t l r ids kf=kf (gQ t l r ids):=by
 unfold uy gQ
 rw[uT hl hm hN]
 cases cf l
 ·simp
 simp only[Bool.not_true,cond_false,Bool.true_and]
 by_cases hlen:ids.length=r.length
 rotate_left
 ·have:((ids.length:Int) != (r.length:Int))=true:=by rw[bne_iff_ne];omega
  rw[this,decide_eq_false hlen];rfl
 have:((ids.length:Int) != (r.length:Int))=false:=by rw[hlen];exact bne_self_eq_false _
 rw[this,decide_eq_true hlen,cond_false,Bool.true_and]
 have lP:allI (λi _=>DR t l r ids i) r 0=allI (λi _=>DR t l r ids i) ids 0:=by
  apply Bool.eq_iff_iff.2
  rw[iv,iv]
  exact⟨λh j hj=>h j (by omega),λh j hj=>h j (by omega)⟩
 rw[lP,Jc (by omega) (by omega),lA (l:=ids) (p:=λi _=>DR t l r ids i) (kf:=kf false) (λi x next h e=>?_) ids 0 rfl]
 ·cases allI (λi _=>DR t l r ids i) ids 0<;>rfl
 ·have hi:i<r.length:=by omega
  have apd:(decide ((0:Int)<=(0:Int))&&decide ((0:Int)<=(i:Int))&&decide ((i:Int)<=(length ids:Int)))=true:=by simp;omega
  have hid:ids.getD i 0=x:=by rw[af _ _ h,e]
  rw[apd]
  simp only[toNat_natCast,cond_true]
  rw[nU hl hN]
  unfold DR
  rw[hid]
  by_cases hf:dA l x≥0
  rotate_left
  ·rw[decide_eq_false hf,decide_eq_true (by omega)];rfl
  obtain⟨f1,f2⟩:=DQ hf
  have hx:l.getD (dA l x).toNat dY∈l:=by rw[af _ _ f2];exact List.getElem_mem f2
  obtain⟨m1,m2⟩:=hm _ hx
  rw[decide_eq_true hf,decide_eq_false (by omega),cond_false]
  have Wc:(List.drop (toNat 0) (List.take i ids))=ids.take i:=rfl
  rw[Wc,kd (by simp;omega) (by simp;omega),f1,ai hi]
  cases Ab (ids.take i) x
  ·rw[cond_false,cond_true,cond_true,xm ht htN m1 m2 h2N]
   cases iM t (l.getD (dA l x).toNat dY) (r.getD i ff)<;>rfl
  ·rfl
end Go.Pv.R
namespace Go.Pv.R
open List Int IntKind
abbrev ax:=QC
structure bo (c:ax) (N:Nat):Prop where
 tl:c.1.length<=maxLen
 tm:∀ x:ak,x∈c.1->x.met.length<=maxLen/\x.met.length<N
 tN:c.1.length<N
 jl:c.2.1.length<=maxLen
 jm:∀ x∈c.2.1,x.2.2.length<=maxLen/\x.2.2.length<N
 jN:c.2.1.length<N
 rl:c.2.2.1.length<=1048576
 rN:2*c.2.2.1.length<N
 sl:c.2.2.2.1.length<=1048576
 sN:c.2.2.2.1.length<N
 bl:c.2.2.2.2.1.length<=1048576
 bN:c.2.2.2.2.1.length<N
 ml:c.2.2.2.2.2.1.length<=1048576
 mN:c.2.2.2.2.2.1.length<N
 n8:8<N
 tb:c.1.length<=1048700
 tmb:∀ x:ak,x∈c.1->x.met.length<=1048700
 jb:c.2.1.length<=1048700
 jmb:∀ x:bc,x∈c.2.1->x.2.2.length<=1048700
def qc (b:l7):Bool:=(decide ((b.1:Int)=0))&&((decide ((b.2.1:Int)=0))&&(decide ((b.2.2:Int)=0)))
def uV (c:ax) (i:Nat) (b:l7):Bool:=qc b||(cS b&&(b.1==c.2.2.2.1.getD i 0))
def bY (c:ax):Bool:=ar c.1&&(cf c.2.1&&(nT c.2.2.2.2.2.1&&(decide (c.2.2.2.1.length=c.2.2.1.length)&&(decide (c.2.2.2.2.1.length=c.2.2.1.length)&& ((decide (c.2.2.1.length=0)||(lJ c.1 c.2.2.1&&gQ c.1 c.2.1 c.2.2.1 c.2.2.2.1))&&(allI (uV c) c.2.2.2.2.1 0&&(q7 c.2.2.2.2.2.2 0 1000&&(AR c.1==c.2.2.2.2.2.2))))))))
theorem ai2 {a b:Nat}:((a:Int) != (b:Int))=!decide (a=b):=by apply Bool.eq_iff_iff.2;simp;omega
theorem B7 {N:Nat} {c:ax} {kf:Bool->Option aa} (h:bo c N) (hs:c.2.2.2.1.length=c.2.2.1.length) (hb:c.2.2.2.2.1.length=c.2.2.1.length):uB N c kf=kf (allI (uV c) c.2.2.2.2.1 0&&(q7 c.2.2.2.2.2.2 0 1000&&(AR c.1==c.2.2.2.2.2.2))):=by
 have hm:=aq;have:=h.bl;unfold uB;rw[OV (by omega) h.bN,lA (l:=c.2.2.2.2.1) (p:=uV c) (kf:=kf false) (λi b next hi e=>?_) c.2.2.2.2.1 0 rfl]
 ·cases allI (uV c) c.2.2.2.2.1 0
  ·rfl
  rw[cond_true,fw];cases q7 c.2.2.2.2.2.2 0 1000
  ·rfl
  simp only[cond_true,Bool.true_and];rw[MP h.tl h.tm h.tN];rfl
 rw[xo,ai (by omega),cond_true,toNat_natCast];unfold uV qc;cases (decide ((b.1:Int)=0))&&((decide ((b.2.1:Int)=0))&&(decide ((b.2.2:Int)=0)))
 ·simp only[Bool.not_false,cond_true,Bool.false_or];cases cS b
  ·rfl
  cases hc:b.1==c.2.2.2.1.getD i 0<;>simp only[bne,hc,Bool.not_true,Bool.not_false,cond_true,cond_false,Bool.and_true,Bool.and_false]
 rfl
theorem B8 {N:Nat} {c:ax} {kf:Bool->Option aa} (h:bo c N) (hs:c.2.2.2.1.length=c.2.2.1.length) (hb:c.2.2.2.2.1.length=c.2.2.1.length):um N c kf=kf (allI (uV c) c.2.2.2.2.1 0):=by
 have hm:=aq;have:=h.bl;unfold um;rw[OS (by omega) h.bN,lA (l:=c.2.2.2.2.1) (p:=uV c) (kf:=kf false) (λi b next hi e=>?_) c.2.2.2.2.1 0 rfl]
 ·cases allI (uV c) c.2.2.2.2.1 0<;>rfl
 rw[xn,ai (by omega),cond_true,toNat_natCast];unfold uV qc;cases (decide ((b.1:Int)=0))&&((decide ((b.2.1:Int)=0))&&(decide ((b.2.2:Int)=0)))
 ·simp only[Bool.not_false,cond_true,Bool.false_or];cases cS b
  ·rfl
  cases hc:b.1==c.2.2.2.1.getD i 0<;>simp only[bne,hc,Bool.not_true,Bool.not_false,cond_true,cond_false,Bool.and_true,Bool.and_false]
 rfl
theorem mZ {N:Nat} {c:ax} {kf:Bool->Option aa} (h:bo c N):lD N c kf=kf (bY c):=by
 have hm:=aq
 have X4:=h.ml
 have h8:=h.n8
 have hr:=h.rl
 have hrN:=h.rN
 unfold lD bY
 rw[c8 h.tl h.tm h.tN]
 cases ar c.1
 ·rfl
 simp only[Bool.not_true,cond_false,Bool.true_and]
 rw[uT h.jl h.jm h.jN]
 cases cf c.2.1
 ·rfl
 simp only[Bool.not_true,cond_false,Bool.true_and]
 rw[sL (by omega) h.mN (by omega)]
 cases nT c.2.2.2.2.2.1
 ·rfl
 simp only[Bool.not_true,cond_false,Bool.true_and,ai2]
 by_cases hs:c.2.2.2.1.length=c.2.2.1.length
 rotate_left
 ·rw[decide_eq_false hs];rfl
 by_cases hb:c.2.2.2.2.1.length=c.2.2.1.length
 rotate_left
 ·rw[decide_eq_false hb,decide_eq_true hs];rfl
 rw[decide_eq_true hs,decide_eq_true hb]
 simp only[Bool.not_true,cond_false,Bool.true_and]
 unfold dL
 by_cases h0:c.2.2.1.length=0
 ·rw[decide_eq_false (by omega)]
  simp only[cond_false]
  rw[B7 h hs hb,decide_eq_true h0]
  rfl
 ·rw[decide_eq_true (by omega)]
  simp only[cond_true]
  rw[Qr h.tl h.tm h.tN h.rl h.rN,decide_eq_false h0]
  cases lJ c.1 c.2.2.1
  ·rfl
  simp only[Bool.not_true,cond_false,Bool.true_and,Bool.false_or]
  rw[MR h.tl h.tN h.jl h.jm h.jN (by omega) (by omega) (by omega)]
  cases gQ c.1 c.2.1 c.2.2.1 c.2.2.2.1
  ·rfl
  simp only[Bool.not_true,cond_false,Bool.true_and]
  exact B7 h hs hb
theorem uW {N:Nat} {c:ax} {kf:Bool->Option aa} (h:bo c N):pY N c kf=kf (bY c):=by
 have hm:=aq
 have X4:=h.ml
 have h8:=h.n8
 have hr:=h.rl
 have hrN:=h.rN
 unfold pY bY
 rw[c7 h.tl h.tm h.tN]
 cases ar c.1
 ·rfl
 simp only[Bool.not_true,cond_false,Bool.true_and]
 rw[uS h.jl h.jm h.jN]
 cases cf c.2.1
 ·rfl
 simp only[Bool.not_true,cond_false,Bool.true_and]
 rw[AO (by omega) h.mN (by omega)]
 cases nT c.2.2.2.2.2.1
 ·rfl
 simp only[Bool.not_true,cond_false,Bool.true_and,ai2]
 by_cases hs:c.2.2.2.1.length=c.2.2.1.length
 rotate_left
 ·rw[decide_eq_false hs];rfl
 by_cases hb:c.2.2.2.2.1.length=c.2.2.1.length
 rotate_left
 ·rw[decide_eq_false hb,decide_eq_true hs];rfl
 rw[decide_eq_true hs,decide_eq_true hb]
 simp only[Bool.not_true,cond_false,Bool.true_and,ka]
 cases q7 c.2.2.2.2.2.2 0 1000
 ·simp
 simp only[Bool.not_true,cond_false,Bool.true_and]
 rw[MO h.tl h.tm h.tN]
 show(bif AR c.1 != c.2.2.2.2.2.2 then kf false else _)=_
 cases ht:AR c.1==c.2.2.2.2.2.2
 ·simp only[bne,ht,Bool.not_false,cond_true,Bool.and_false]
 simp only[bne,ht,Bool.not_true,cond_false,Bool.and_true]
 by_cases h0:c.2.2.1.length=0
 ·rw[decide_eq_false (by omega),cond_false,B8 h hs hb,decide_eq_true h0]
  rfl
 ·rw[decide_eq_true (by omega),cond_true,Qs h.tl h.tm h.tN h.rl h.rN,decide_eq_false h0]
  cases lJ c.1 c.2.2.1
  ·rfl
  simp only[Bool.not_true,cond_false,Bool.true_and,Bool.false_or]
  rw[MQ h.tl h.tN h.jl h.jm h.jN (by omega) (by omega)]
  cases gQ c.1 c.2.1 c.2.2.1 c.2.2.2.1
  ·rfl
  simp only[Bool.not_true,cond_false,Bool.true_and]
  exact B8 h hs hb
theorem ZQ (m:List Int):(m.all λid=>decide (m.count id<=1))=decide m.Nodup:=by
 apply Bool.eq_iff_iff.2;rw[List.all_eq_true,decide_eq_true_eq,List.nodup_iff_count];constructor
 ·intro h x;by_cases hx:x∈m
  ·simpa using h x hx
  rw[List.count_eq_zero_of_not_mem hx];omega
 intro h x hx;simpa using h x
def Fz (c:ax):Bool:=c.1.all λx:ak=>decide x.met.Nodup
theorem MS {N:Nat} {c:ax} {kf:Bool->Option aa} (h:bo c N):uK N c kf=kf (Fz c):=by
 unfold uK;rw[Jh h.tl h.tN,lA (l:=c.1) (p:=λ_ (x:ak)=>decide x.met.Nodup) (kf:=kf false) (λi x next hi e=>?_) c.1 0 rfl,DN (p:=λx:ak=>decide x.met.Nodup)]
 ·unfold Fz;cases c.1.all λx:ak=>decide x.met.Nodup<;>rfl
 obtain⟨m1,m2⟩:=h.tm x (by rw[←e];exact List.getElem_mem hi);rw[Jg m1 m2,lA (l:=x.met) (p:=λ_ id=>decide (x.met.count id<=1)) (kf:=kf false) (λj y next' hj ej=>?_) x.met 0 rfl,DN (p:=λid:Int=>decide (x.met.count id<=1)),ZQ];rw[xN m1 m2,IL m1];by_cases hc:x.met.count y<=1
 ·rw[decide_eq_false (by omega),decide_eq_true hc];rfl
 rw[decide_eq_true (by omega),decide_eq_false hc];rfl
def ai3 (c:ax) (i:Nat) (p:cW):Bool:=decide (i<c.2.2.2.1.length)&&(decide (dA c.2.1 (c.2.2.2.1.getD i 0)≥0)&&iM c.1 (c.2.1.getD (dA c.2.1 (c.2.2.2.1.getD i 0)).toNat dY) p)
def FA (c:ax):Bool:=allI (ai3 c) c.2.2.1 0
theorem Jk {N:Nat} {c:ax} {kf:Bool->Option aa} (h:bo c N):qE N c kf=kf (FA c):=by
 have hm:=aq;have hr:=h.rl;have hrN:=h.rN;have h8:=h.n8;unfold qE FA;rw[GH (by omega) (by omega),lA (l:=c.2.2.1) (p:=ai3 c) (kf:=kf false) (λi p next hi e=>?_) c.2.2.1 0 rfl]
 ·cases allI (ai3 c) c.2.2.1 0<;>rfl
 ·unfold ai3
  by_cases hs:i<c.2.2.2.1.length
  rotate_left
  ·rw[decide_eq_false hs,decide_eq_true (by omega)];rfl
  rw[decide_eq_true hs,decide_eq_false (by omega),cond_false,ai hs,cond_true,toNat_natCast,yM h.jl h.jN]
  by_cases hf:dA c.2.1 (c.2.2.2.1.getD i 0)≥0
  rotate_left
  ·rw[decide_eq_false hf,decide_eq_true (by omega)];rfl
  obtain⟨f1,f2⟩:=DQ hf
  obtain⟨m1,m2⟩:=h.jm (c.2.1.getD (dA c.2.1 (c.2.2.2.1.getD i 0)).toNat dY) (by rw[af _ _ f2];exact List.getElem_mem f2)
  rw[decide_eq_true hf,decide_eq_false (by omega),cond_false,f1,cond_true,xm h.tl h.tN m1 m2 (by omega)]
  cases iM c.1 (c.2.1.getD (dA c.2.1 (c.2.2.2.1.getD i 0)).toNat dY) p<;>rfl
def aX (c:ax):List Int:=gO (λ_ b=>qc b) (λi _=>(i:Int)) c.2.2.2.2.1 0
theorem yN {N:Nat} {c:ax} {kf:List Int->Option aa} (h:bo c N):uu N c kf=kf (aX c):=by
 have hm:=aq;have:=h.bl;unfold uu;rw[ML (by omega) h.bN,nr (l:=c.2.2.2.2.1) (c:=λ_ b=>qc b) (f:=λi _=>(i:Int)) (λi b s next hi e hs=>?_) c.2.2.2.2.1 0 [] rfl (by simp),List.nil_append]
 ·rfl
 have tM:decide ((length s+length [(i:Int)])*1<=4398046511104)=true:=decide_eq_true (by simp;omega);rw[tM,cond_true];rfl
theorem sj {N:Nat} {c:ax} {kf:List Int->Option aa} (h:bo c N):iS N c kf=kf (aX c):=by
 have hm:=aq;have:=h.bl;unfold iS;rw[MN (by omega) h.bN,nr (l:=c.2.2.2.2.1) (c:=λ_ b=>qc b) (f:=λi _=>(i:Int)) (λi b s next hi e hs=>?_) c.2.2.2.2.1 0 [] rfl (by simp),List.nil_append]
 ·rfl
 have tM:decide ((length s+length [(i:Int)])*1<=4398046511104)=true:=decide_eq_true (by simp;omega);rw[tM,cond_true];rfl
def HD (l:List QL):Nat:=(l.filter λx=>x.2.1==4).length
theorem ai4 (l:List QL):HD l<=l.length:=List.length_filter_le _ _
theorem K9:∀ (l:List QL) (i:Nat) (s:Int),-4000000+l.length<=s->s<=4000000->foldI (λ_ (x:QL) s=>bif x.2.1==4 then wrap .i64 (s - 1) else s) l i s=s - HD l
 |[],_,_,_,_=>by simp[foldI,HD]
 |x::r,i,s,h,h'=>by
  simp only[List.length_cons] at h;simp only[foldI,HD,List.filter_cons];cases hx:x.2.1==4 with
  |false=>simp only[cond_false];exact K9 r (i+1) s (by omega) h'
  |true=>simp only[cond_true,if_true,List.length_cons];rw[wrap64 (by omega) (by omega),K9 r (i+1) (s - 1) (by omega) (by omega)];unfold HD;omega
def MT (c:ax):Bool:=nT c.2.2.2.2.2.1&&(q7 c.2.2.2.2.2.2 0 1000&&decide ((HD c.2.2.2.2.2.1:Int)=c.2.2.2.2.2.2+c.2.2.2.2.1.length - (aX c).length))
theorem uX {a b c:Int}:q7 a b c=true↔b<=a/\a<=c:=by unfold q7;simp
theorem MU {N:Nat} {c:ax} {kf:Bool->Option aa} (h:bo c N):uL N c kf=kf (MT c):=by
 have hm:=aq;have X4:=h.ml;have hbl:=h.bl;have h8:=h.n8;have hwl:(aX c).length<=c.2.2.2.2.1.length:=qa _ _;unfold uL;rw[sj h];rw[Ji (by omega) h.mN,KK (λ_ (x:QL) s=>bif x.2.1==4 then wrap .i64 (s - 1) else s) (λi x s next hi e=>by cases x.2.1==4<;>rfl),sL (by omega) h.mN (by omega)];unfold MT;cases nT c.2.2.2.2.2.1
 ·rfl
 simp only[cond_true,Bool.true_and,fw];cases hp:q7 c.2.2.2.2.2.2 0 1000
 ·rfl
 obtain⟨p1,p2⟩:=uX.1 hp;have OF:=ai4 c.2.2.2.2.2.1;simp only[cond_true,Bool.true_and];rw[wrap64 (n:=c.2.2.2.2.2.2+_) (by omega) (by omega),wrap64 (by omega) (by omega),K9 _ _ _ (by omega) (by omega)];congr 1;apply Bool.eq_iff_iff.2;rw[beq_iff_eq,decide_eq_true_eq];omega
def S4 (g:ak->Int) (l:List ak):Int:=foldI (λ_ (x:ak) s=>wrap .i64 (s+g x)) l 0 0
theorem VM {g1 g2 g3:ak->Int} {k:Int->Int->Int->Option aa}:∀ (l:List ak) (i:Nat) (a b c:Int),aft (λ(i:Nat) (x:ak) (a b c:Int) (next:Int->Int->Int->Option aa)=>next (wrap .i64 (a+g1 x)) (wrap .i64 (b+g2 x)) (wrap .i64 (c+g3 x))) k l i a b c= k (foldI (λ_ (x:ak) s=>wrap .i64 (s+g1 x)) l i a) (foldI (λ_ (x:ak) s=>wrap .i64 (s+g2 x)) l i b) (foldI (λ_ (x:ak) s=>wrap .i64 (s+g3 x)) l i c)
 |[],_,_,_,_=>rfl
 |x::r,i,a,b,c=>by simp only[aft,foldI];exact VM r (i+1) _ _ _
def MV (c:ax):Bool:=ar c.1&&((wrap .i64 (2*S4 (λx=>x.2.2.1) c.1)==S4 (λx:ak=>(x.met.length:Int)) c.1)&&(wrap .i64 (2*S4 (λx=>x.2.2.2.2.1) c.1)==S4 (λx:ak=>(x.met.length:Int)) c.1))
theorem MW {N:Nat} {c:ax} {kf:Bool->Option aa} (h:bo c N):uM N c kf=kf (MV c):=by
 unfold uM;rw[Jj h.tl h.tN];simp only[c8 h.tl h.tm h.tN];refine Eq.trans (VM (g1:=λx=>x.2.2.1) (g2:=λx=>x.2.2.2.2.1) (g3:=λx:ak=>(x.met.length:Int)) c.1 0 0 0 0) ?_;unfold MV;cases ar c.1 with
 |false=>rfl
 |true=>simp only[cond_true,Bool.true_and];show(bif wrap .i64 (2*S4 (λx=>x.2.2.1) c.1)==S4 (λx:ak=>(x.met.length:Int)) c.1 then _ else _)=_;cases wrap .i64 (2*S4 (λx=>x.2.2.1) c.1)==S4 (λx:ak=>(x.met.length:Int)) c.1<;>rfl
end Go.Pv.R
namespace Go.Pv
open List Int IntKind
theorem DS {α:Type} [DecidableEq α] {xs ys:List α} {body:Nat->α->Option aa->Option aa} {kt kf:Option aa} (hlen:xs.length=ys.length) (hb:∀ (i:Nat) (x:α) (next:Option aa) (h:i<xs.length) (h':i<ys.length),xs[i]=x->body i x next=bif decide (x=ys[i]) then next else kf):ud body kt xs 0=bif decide (xs=ys) then kt else kf:=by
 have key:∀ (r:List α) (i:Nat),xs.drop i=r->xs.take i=ys.take i->ud body kt r i=bif decide (xs=ys) then kt else kf:=by
  intro r;induction r with
  |nil=>
  intro i hd he;have:xs.length<=i:=by have:=congrArg length hd;simp at this;omega
  rw[List.take_of_length_le this,List.take_of_length_le (by omega)] at he;rw[decide_eq_true he];rfl
  |cons x r ih=>
  intro i hd he;have du:i<xs.length:=by have:=congrArg length hd;simp at this;omega
  rw[List.drop_eq_getElem_cons du] at hd;injection hd with h1 h2;simp only[ud];rw[hb i x _ du (by omega) h1];by_cases hx:x=ys[i]
  ·rw[decide_eq_true hx,cond_true,ih (i+1) h2 (by rw[List.take_succ_eq_append_getElem du,List.take_succ_eq_append_getElem (by omega),he,h1,hx])]
  rw[decide_eq_false hx,cond_false];have: ¬xs=ys:=λe=>hx (by rw[←h1];simp only[e]);rw[decide_eq_false this];rfl
 exact key xs 0 rfl rfl
theorem lens {α β:Type} {xs:List α} {ys:List β} {A B:Option aa} {p:Bool} {kf:Bool->Option aa} (h:xs.length=ys.length->B=kf p) (h':xs.length≠ys.length->p=false):(bif ((length xs:Int) != (length ys:Int)) then kf false else B)=kf p:=by
 by_cases hl:xs.length=ys.length
 ·have:((xs.length:Int) != (ys.length:Int))=false:=(by rw[hl];exact bne_self_eq_false _);rw[this,cond_false,h hl]
 have:((xs.length:Int) != (ys.length:Int))=true:=by rw[bne_iff_ne];omega
 rw[this,cond_true,h' hl]
end Go.Pv
namespace Go.Pv.R
open List Int IntKind
theorem rb {N:Nat} {a b:List Int} {kf:Bool->Option aa} (hl:a.length<=maxLen) (hN:a.length<N):gg N a b kf=kf (decide (a=b)):=by
 unfold gg;refine lens (A:=kf true) (λh=>?_) (λh=>decide_eq_false λe=>h (by rw[e]));rw[GG hl hN,DS h (kf:=kf false) (λi x next hi G0 e=>?_)]
 ·cases decide (a=b)<;>rfl
 rw[ai G0,cond_true,toNat_natCast,af _ _ G0];by_cases hx:x=b[i]
 ·simp[hx]
 have:(x != b[i])=true:=by simpa using hx
 rw[this,decide_eq_false hx];rfl
theorem HE {N:Nat} {a b:List bE} {kf:Bool->Option aa} (hl:a.length<=maxLen) (hN:a.length<N):pD N a b kf=kf (decide (a=b)):=by
 unfold pD;refine lens (A:=kf true) (λh=>?_) (λh=>decide_eq_false λe=>h (by rw[e]));rw[Fx hl hN,DS h (kf:=kf false) (λi x next hi G0 e=>?_)]
 ·cases decide (a=b)<;>rfl
 rw[ai G0,cond_true,toNat_natCast,af _ _ G0];have:(decide ((x.1:Int)=b[i].1)&&decide ((x.2:Int)=b[i].2))=decide (x=b[i]):=by apply Bool.eq_iff_iff.2;simp[Prod.ext_iff]
 rw[this];cases decide (x=b[i])<;>rfl
theorem FC {N:Nat} {a b:List QB} {kf:Bool->Option aa} (hl:a.length<=maxLen) (hN:a.length<N):mE N a b kf=kf (decide (a=b)):=by
 unfold mE;refine lens (A:=kf true) (λh=>?_) (λh=>decide_eq_false λe=>h (by rw[e]));rw[CT hl hN,DS h (kf:=kf false) (λi x next hi G0 e=>?_)]
 ·cases decide (a=b)<;>rfl
 rw[ai G0,cond_true,toNat_natCast,af _ _ G0];have:(decide ((x.1:Int)=b[i].1)&&(decide ((x.2.1:Int)=b[i].2.1)&&decide ((x.2.2:Int)=b[i].2.2)))=decide (x=b[i]):=by apply Bool.eq_iff_iff.2;simp[Prod.ext_iff]
 rw[this];cases decide (x=b[i])<;>rfl
theorem HF {N:Nat} {a b:List QL} {kf:Bool->Option aa} (hl:a.length<=maxLen) (hN:a.length<N):pE N a b kf=kf (decide (a=b)):=by
 unfold pE;refine lens (A:=kf true) (λh=>?_) (λh=>decide_eq_false λe=>h (by rw[e]));rw[Fy hl hN,DS h (kf:=kf false) (λi x next hi G0 e=>?_)]
 ·cases decide (a=b)<;>rfl
 rw[ai G0,cond_true,toNat_natCast,af _ _ G0];have:(decide ((x.1:Int)=b[i].1)&&(decide ((x.2.1:Int)=b[i].2.1)&&(decide ((x.2.2.1:Int)=b[i].2.2.1)&&decide ((x.2.2.2:Int)=b[i].2.2.2))))=decide (x=b[i]):=by apply Bool.eq_iff_iff.2;simp[Prod.ext_iff]
 rw[this];cases decide (x=b[i])<;>rfl
theorem alc (x y:ak):decide (x=y)=((x.1==y.1)&&((x.2.1==y.2.1)&&((x.2.2.1==y.2.2.1)&&((x.2.2.2.1==y.2.2.2.1)&&((x.2.2.2.2.1==y.2.2.2.2.1)&&decide (x.2.2.2.2.2=y.2.2.2.2.2)))))):=by apply Bool.eq_iff_iff.2;simp[Prod.ext_iff]
theorem ai5 (x y:bc):decide (x=y)=((x.1==y.1)&&((x.2.1==y.2.1)&&decide (x.2.2=y.2.2))):=by apply Bool.eq_iff_iff.2;simp[Prod.ext_iff]
theorem CU {N:Nat} {a b:List ak} {kf:Bool->Option aa} (hl:a.length<=maxLen) (hm:∀ x:ak,x∈a->x.met.length<=maxLen/\x.met.length<N) (hN:a.length<N):bX N a b kf=kf (decide (a=b)):=by
 unfold bX;refine lens (A:=kf true) (λh=>?_) (λh=>decide_eq_false λe=>h (by rw[e]));rw[mY hl hN,DS h (kf:=kf false) (λi x next hi G0 e=>?_)]
 ·cases decide (a=b)<;>rfl
 rw[ai G0,cond_true,toNat_natCast,af _ _ G0,alc];obtain⟨m1,m2⟩:=hm x (by rw[←e];exact List.getElem_mem hi);unfold pB;rw[rb m1 m2];cases x.1==b[i].1<;>simp;cases x.2.1==b[i].2.1<;>simp;cases x.2.2.1==b[i].2.2.1<;>simp;cases x.2.2.2.1==b[i].2.2.2.1<;>simp;cases x.2.2.2.2.1==b[i].2.2.2.2.1<;>simp;all_goals (by_cases hq:x.2.2.2.2.2=b[i].2.2.2.2.2<;>simp[hq])
theorem BB {N:Nat} {a b:List bc} {kf:Bool->Option aa} (hl:a.length<=maxLen) (hm:∀ x:bc,x∈a->x.2.2.length<=maxLen/\x.2.2.length<N) (hN:a.length<N):bS N a b kf=kf (decide (a=b)):=by
 unfold bS;refine lens (A:=kf true) (λh=>?_) (λh=>decide_eq_false λe=>h (by rw[e]));rw[mo hl hN,DS h (kf:=kf false) (λi x next hi G0 e=>?_)]
 ·cases decide (a=b)<;>rfl
 rw[ai G0,cond_true,toNat_natCast,af _ _ G0,ai5];obtain⟨m1,m2⟩:=hm x (by rw[←e];exact List.getElem_mem hi);unfold pC;rw[rb m1 m2];cases x.1==b[i].1<;>simp;cases x.2.1==b[i].2.1<;>simp;all_goals (by_cases hq:x.2.2=b[i].2.2<;>simp[hq])
def QW (a b:ax):Bool:=decide (a.1=b.1)&&(decide (a.2.1=b.2.1)&&(decide (a.2.2.1=b.2.2.1)&&(decide (a.2.2.2.1=b.2.2.2.1)&&(decide (a.2.2.2.2.1=b.2.2.2.2.1)&&(decide (a.2.2.2.2.2.1=b.2.2.2.2.2.1)&&(a.2.2.2.2.2.2==b.2.2.2.2.2.2))))))
end Go.Pv.R
namespace Go.Pv.R
open List Int IntKind
theorem IM (c:ax):(aX c).length<=c.2.2.2.2.1.length:=qa _ _
end Go.Pv.R
namespace Go.Pv.R
open List Int IntKind
theorem P' {α:Type}:∀ (l:List α) (i:Nat),gO (λ_ _=>true) (λ_ x=>x) l i=l
 |[],_=>rfl
 |x::r,i=>by simp only[gO,cond_true];rw[P' r (i+1)]
theorem IN {α:Type} {body:Nat->α->List α->(List α->Option aa)->Option aa} {eB:List α->Option aa} {l:List α} (hb:∀ (i:Nat) (x:α) (s:List α) (next:List α->Option aa) (h:i<l.length),l[i]=x->s.length<=i->body i x s next=next (s++[x])):dV body eB l 0 []=eB l:=by rw[nr (l:=l) (c:=λ_ _=>true) (f:=λ_ x=>x) (λi x s next h e hs=>by rw[hb i x s next h e hs];rfl) l 0 [] rfl (by simp),P',List.nil_append]
theorem DT {α:Type} {l:List α} {b:Bool} {kf:List α->Option aa} (hb:b=true): (bif List.isEmpty l then both (kf []) (bif b then kf ([]++l) else none) else bif b then kf ([]++l) else none)=kf l:=by
 subst hb;cases l with
 |nil=>exact Af _
 |cons x r=>rfl
theorem Xk {N:Nat} {l:List Int} {kf:List Int->Option aa} (hl:l.length<=1048700):S48 N l kf=kf l:=by exact DT (decide_eq_true (by simp only[List.length_nil];omega))
theorem ape {N:Nat} {l:List bE} {kf:List bE->Option aa} (hl:l.length<=1048576):S47 N l kf=kf l:=DT (decide_eq_true (by simp only[List.length_nil];omega))
theorem apf {N:Nat} {l:List QB} {kf:List QB->Option aa} (hl:l.length<=1048576):S49 N l kf=kf l:=DT (decide_eq_true (by simp only[List.length_nil];omega))
theorem acs {N:Nat} {l:List QL} {kf:List QL->Option aa} (hl:l.length<=1048576):S50 N l kf=kf l:=DT (decide_eq_true (by simp only[List.length_nil];omega))
theorem om {N:Nat} {l:List ak} {kf:List ak->Option aa} (hl:l.length<=1048700) (hm:∀ x:ak,x∈l->x.met.length<=1048700) (hN:l.length<N):jY N l kf=kf l:=by
 have h0:=aq;unfold jY;rw[MI (by omega) hN];refine IN (l:=l) λi x s next h e hs=>?_
 have hx:x∈l:=by rw[←e];exact List.getElem_mem h
 have hxm:x.2.2.2.2.2.length<=1048700:=hm x hx;rw[decide_eq_true (by simp only[List.length_nil];omega),decide_eq_true (by simp only[List.length_cons,List.length_nil];omega)];rfl
theorem uY {N:Nat} {l:List bc} {kf:List bc->Option aa} (hl:l.length<=1048700) (hm:∀ x:bc,x∈l->x.2.2.length<=1048700) (hN:l.length<N):kH N l kf=kf l:=by
 have h0:=aq;unfold kH;rw[I3 (by omega) hN];refine IN (l:=l) λi x s next h e hs=>?_
 have hx:x∈l:=by rw[←e];exact List.getElem_mem h
 have hxm:x.2.2.length<=1048700:=hm x hx;rw[decide_eq_true (by simp only[List.length_nil];omega),decide_eq_true (by simp only[List.length_cons,List.length_nil];omega)];rfl
theorem sM {N:Nat} {l:List ak} {kf:List ak->Option aa} (hl:l.length<=1048700) (hm:∀ x:ak,x∈l->x.met.length<=1048700) (hN:l.length<N):jD N l kf=kf l:=by
 have h0:=aq;unfold jD;rw[Hz (by omega) hN];refine IN (l:=l) λi x s next h e hs=>?_
 have hx:x∈l:=by rw[←e];exact List.getElem_mem h
 have hxm:x.2.2.2.2.2.length<=1048700:=hm x hx;rw[Xk hxm,decide_eq_true (by simp only[List.length_cons,List.length_nil];omega)];rfl
theorem Jl {N:Nat} {l:List bc} {kf:List bc->Option aa} (hl:l.length<=1048700) (hm:∀ x:bc,x∈l->x.2.2.length<=1048700) (hN:l.length<N):qy N l kf=kf l:=by
 have h0:=aq;unfold qy;rw[GC (by omega) hN];refine IN (l:=l) λi x s next h e hs=>?_
 have hx:x∈l:=by rw[←e];exact List.getElem_mem h
 have hxm:x.2.2.length<=1048700:=hm x hx;rw[Xk hxm,decide_eq_true (by simp only[List.length_cons,List.length_nil];omega)];rfl
theorem lf {N:Nat} {c:ax} {kf:ax->Option aa} (h:bo c N):fq N c kf=kf c:=by have h0:=aq;have h1:=h.rl;have h2:=h.sl;have h3:=h.bl;have h4:=h.ml;unfold fq;rw[om h.tb h.tmb h.tN,uY h.jb h.jmb h.jN,decide_eq_true (by simp only[List.length_nil];omega),decide_eq_true (by simp only[List.length_nil];omega),decide_eq_true (by simp only[List.length_nil];omega),decide_eq_true (by simp only[List.length_nil];omega)];rfl
theorem bQ {N:Nat} {c:ax} {kf:ax->Option aa} (h:bo c N):aF N c kf=kf c:=by have h0:=aq;have h2:=h.sl;unfold aF;rw[sM h.tb h.tmb h.tN,Jl h.jb h.jmb h.jN,ape h.rl,Xk (by omega),apf h.bl,acs h.ml]
abbrev GI:=QL
def VN (l:List GI):Int:=(l.getLast?.map λx=>x.2.2.2).getD 0
theorem ai6 {l:List GI} (h0:l≠[]):VN l=(getD l (l.length - 1) Od).2.2.2:=by
 unfold VN;rw[List.getLast?_eq_getElem?];have h1:l.length - 1<l.length:=by
  cases l with
  |nil=>exact absurd rfl h0
  |cons x r=>simp
 rw[List.getD_eq_getElem?_getD,List.getElem?_eq_getElem h1];rfl
theorem ZR {l:List GI} {kf:Int->Option aa} (hl:l.length<=maxLen):(bif ((length l:Int)==(0:Int)) then kf (0:Int) else bif (aD (wrap .i64 ((length l:Int) - (1:Int))) (length l)) then kf (getD l (toNat (wrap .i64 ((length l:Int) - (1:Int)))) Od).2.2.2 else none)=kf (VN l):=by
 have hm:=aq;cases l with
 |nil=>rfl
 |cons x r=>have e1:((length (x::r):Int)==(0:Int))=false:=(by simp only[List.length_cons];exact beq_eq_false_iff_ne.2 (by omega));rw[wrap64 (n:=(length (x::r):Int) - 1) (by omega) (by omega)];have e2:(length (x::r):Int) - 1=((length (x::r) - 1:Nat):Int):=(by simp only[List.length_cons];omega);rw[e1,e2,ai (by simp),ai6 (by simp)];simp only[cond_true,cond_false,toNat_natCast]
theorem OX {N:Nat} {l:List GI} {kf:Int->Option aa} (hl:l.length<=maxLen):CO N l kf=kf (VN l):=ZR hl
theorem OY {N:Nat} {l:List GI} {kf:Int->Option aa} (hl:l.length<=maxLen):CQ N l kf=kf (VN l):=ZR hl
def S5 (l:List GI) (eh rE:Int):GI:=((l.length:Int)+1,(eh,(rE,P8 (VN l) ((l.length:Int)+1,(eh,(rE,0))))))
def yO (l:List GI) (eh rE:Int):Bool:=nT (l++[S5 l eh rE])
def xp (l:List GI) (eh rE:Int):List GI:=bif yO l eh rE then l++[S5 l eh rE] else l
theorem VO {l:List GI} {eh rE:Int} (h:yO l eh rE=true):(xp l eh rE).length<=200:=by unfold xp;rw[h];unfold yO nT at h;simp only[Bool.and_eq_true,decide_eq_true_eq] at h;exact h.1
theorem MX {N:Nat} {l:List GI} {eh rE:Int} {kf:List GI->Bool->Option aa} (hl:l.length<=1048576) (hN:l.length+1<N) (h4:4<N):ug N l eh rE kf=kf (xp l eh rE) (yO l eh rE):=by have hm:=aq;unfold ug;rw[OX (by omega),F5 h4,wrap64 (n:=(length l:Int)+1) (by omega) (by omega),decide_eq_true (by simp only[List.length_nil];omega)];simp only[List.nil_append,cond_true];rw[decide_eq_true (by simp only[List.length_cons,List.length_nil];omega),cond_true,AO (by simp only[List.length_append,List.length_cons,List.length_nil];omega) (by simp only[List.length_append,List.length_cons,List.length_nil];omega) h4];show(bif (!yO l eh rE) then kf l false else kf (l++[S5 l eh rE]) true)=_;unfold xp;cases yO l eh rE<;>rfl
theorem MY {N:Nat} {l:List GI} {eh rE:Int} {kf:List GI->Bool->Option aa} (hl:l.length<=1048576) (hN:l.length+1<N) (h4:4<N):uw N l eh rE kf=kf (xp l eh rE) (yO l eh rE):=by have hm:=aq;unfold uw;rw[OY (by omega),DK h4,wrap64 (n:=(length l:Int)+1) (by omega) (by omega),acs hl,decide_eq_true (by simp only[List.length_cons,List.length_nil];omega),cond_true,sL (by simp only[List.length_append,List.length_cons,List.length_nil];omega) (by simp only[List.length_append,List.length_cons,List.length_nil];omega) h4,acs hl];show(bif (!yO l eh rE) then kf l false else kf (l++[S5 l eh rE]) true)=_;unfold xp;cases yO l eh rE<;>rfl
def B9 (c:ax) (l:List GI):ax:=(c.1,(c.2.1,(c.2.2.1,(c.2.2.2.1,(c.2.2.2.2.1,(l,c.2.2.2.2.2.2))))))
def oo (c out:ax) (eh rE:Int):Bool:=yO c.2.2.2.2.2.1 eh rE&&(bY c&&bY (B9 out (xp c.2.2.2.2.2.1 eh rE)))
def qN (c out:ax) (eh rE:Int):ax:=bif oo c out eh rE then B9 out (xp c.2.2.2.2.2.1 eh rE) else c
theorem S6 {c:ax} {N:Nat} {l:List GI} (h:bo c N) (hl:l.length<=200) (hN:200<N):bo (B9 c l) N:=
 ⟨h.tl,h.tm,h.tN,h.jl,h.jm,h.jN,h.rl,h.rN,h.sl,h.sN,h.bl,h.bN,by show l.length<=_;omega,by show l.length<_;omega,h.n8,h.tb,h.tmb,h.jb,h.jmb⟩
theorem lg {N:Nat} {c out:ax} {ok:Bool} {eh rE:Int} {kf:ax->Bool->Option aa} (h:bo c N) (ho:ok=true->bo out N) (hN:200<N) (hl:c.2.2.2.2.2.1.length+1<N): ft N c out ok eh rE kf=bif ok then kf (qN c out eh rE) (oo c out eh rE) else kf c false:=by
 have h8:=h.n8;unfold ft;rw[MX h.ml hl (by omega)];simp only[lf h,uW h];cases ok with
 |false=>rfl
 |true=>
 unfold qN oo;cases hw:yO c.2.2.2.2.2.1 eh rE with
 |false=>rfl
 |true=>
 cases hc:bY c with
 |false=>rfl
 |true=>have:=uW (N:=N) (kf:=λr=>bif !r then kf c false else kf (B9 out (xp c.2.2.2.2.2.1 eh rE)) true) (S6 (ho rfl) (VO hw) hN);refine this.trans ?_;simp only[Bool.true_and];cases bY (B9 out (xp c.2.2.2.2.2.1 eh rE))<;>rfl
theorem lh {N:Nat} {c out:ax} {eh rE:Int} {kf:ax->Bool->Option aa} (h:bo c N) (ho:bo out N) (he:out.2.2.2.2.2.1=c.2.2.2.2.2.1) (hN:200<N) (hl:c.2.2.2.2.2.1.length+1<N): j0 N c out eh rE kf=kf (qN c out eh rE) (oo c out eh rE):=by
 have h8:=h.n8;unfold j0;rw[he,MY h.ml hl (by omega)];simp only[bQ h,mZ h];unfold qN oo;cases hw:yO c.2.2.2.2.2.1 eh rE with
 |false=>rfl
 |true=>
 cases hc:bY c with
 |false=>rfl
 |true=>have:=mZ (N:=N) (kf:=λr=>bif !r then kf c false else kf (B9 out (xp c.2.2.2.2.2.1 eh rE)) true) (S6 ho (VO hw) hN);refine this.trans ?_;simp only[Bool.true_and];cases bY (B9 out (xp c.2.2.2.2.2.1 eh rE))<;>rfl
theorem B' {c:ax} (h:bY c=true):c.2.2.2.1.length=c.2.2.1.length/\c.2.2.2.2.1.length=c.2.2.1.length:=by unfold bY at h;simp only[Bool.and_eq_true,decide_eq_true_eq] at h;exact⟨h.2.2.2.1,h.2.2.2.2.1⟩
def F9 (c:ax) (p f s:Int):l7:=(c.2.2.2.1.getD p.toNat 0,(f,s))
def ald (c:ax) (l:List l7):ax:=(c.1,(c.2.1,(c.2.2.1,(c.2.2.2.1,(l,c.2.2.2.2.2)))))
def IP (c:ax) (p f s:Int):Bool:=bY c&&((decide (0<=p)&&decide (p<c.2.2.1.length))&&(qc (c.2.2.2.2.1.getD p.toNat oO)&&cS (F9 c p f s)))
def DU (c:ax) (p f s:Int):ax:=ald c (c.2.2.2.2.1.set p.toNat (F9 c p f s))
theorem ZS {c:ax} {N:Nat} (h:bo c N) (p f s:Int):bo (DU c p f s) N:=
 ⟨h.tl,h.tm,h.tN,h.jl,h.jm,h.jN,h.rl,h.rN,h.sl,h.sN,by show(List.set _ _ _).length<=_;rw[List.length_set];exact h.bl,by show(List.set _ _ _).length<_;rw[List.length_set];exact h.bN,h.ml,h.mN,h.n8,h.tb,h.tmb,h.jb,h.jmb⟩
theorem La {N:Nat} {c:ax} {p f s:Int} {kf:ax->Bool->Option aa} (h:bo c N) (hN:200<N) (hl:c.2.2.2.2.2.1.length+1<N): oe N c p f s kf=bif IP c p f s then kf (qN c (DU c p f s) 4 (F9 c p f s).1) (oo c (DU c p f s) 4 (F9 c p f s).1) else kf c false:=by
 have hm:=aq;have hr:=h.rl;unfold oe;rw[lf h,uW h];unfold IP;cases hc:bY c with
 |false=>rfl
 |true=>
  obtain⟨l1,l2⟩:=B' hc
  simp only[Bool.not_true,cond_false,Bool.true_and]
  rw[wrap64 (n:=(length c.2.2.1:Int) - 1) (by omega) (by omega),ka]
  by_cases hp:0<=p/\p<c.2.2.1.length
  rotate_left
  ·have e1:q7 p 0 ((length c.2.2.1:Int) - 1)=false:=by
    cases hx:q7 p 0 ((length c.2.2.1:Int) - 1) with
    |false=>rfl
    |true=>rw[uX] at hx;exact absurd ⟨hx.1,by omega⟩ hp
   have e2:(decide (0<=p)&&decide (p<c.2.2.1.length))=false:=by
    cases hx:(decide (0<=p)&&decide (p<c.2.2.1.length)) with
    |false=>rfl
    |true=>simp only[Bool.and_eq_true,decide_eq_true_eq] at hx;exact absurd hx hp
   rw[e1,e2]
   rfl
  ·obtain⟨hp0,YT⟩:=hp
   obtain⟨i,rfl⟩:∃ i:Nat,p=(i:Int):=⟨p.toNat,by omega⟩
   have e1:q7 (i:Int) 0 ((length c.2.2.1:Int) - 1)=true:=uX.2 ⟨by omega,by omega⟩
   have e2:(decide (0<=(i:Int))&&decide ((i:Int)<c.2.2.1.length))=true:=by simp only[Bool.and_eq_true,decide_eq_true_eq];omega
   rw[e1,e2]
   simp only[Bool.not_true,cond_false,Bool.true_and,toNat_natCast,List.length_set]
   rw[ai (show i<c.2.2.2.2.1.length by omega),ai (show i<c.2.2.2.1.length by omega)]
   simp only[cond_true]
   have e3:getD (List.set c.2.2.2.2.1 i (getD c.2.2.2.1 i (0:Int),(f,s))) i oO=(getD c.2.2.2.1 i (0:Int),(f,s)):=by
    rw[List.getD_eq_getElem?_getD,List.getElem?_set_self (by omega)]
    rfl
   rw[e3,xn]
   show(bif !qc (getD c.2.2.2.2.1 i oO) then kf c false else _)=_
   cases qc (getD c.2.2.2.2.1 i oO) with
   |false=>rfl
   |true=>
    simp only[Bool.not_true,cond_false,Bool.true_and]
    exact lg (out:=DU c (i:Int) f s) h (λ_=>ZS h _ _ _) hN hl
theorem Lb {N:Nat} {c:ax} {p f s:Int} {kf:ax->Bool->Option aa} (h:bo c N) (hN:200<N) (hl:c.2.2.2.2.2.1.length+1<N): fu N c p f s kf=bif IP c p f s then kf (qN c (DU c p f s) 4 (F9 c p f s).1) (oo c (DU c p f s) 4 (F9 c p f s).1) else kf c false:=by
 have hm:=aq;have hr:=h.rl;unfold fu;rw[bQ h,mZ h];unfold IP;cases hc:bY c with
 |false=>rfl
 |true=>
  obtain⟨l1,l2⟩:=B' hc
  simp only[Bool.not_true,cond_false,Bool.true_and]
  by_cases hp:0<=p/\p<c.2.2.1.length
  rotate_left
  ·have e2:(decide (0<=p)&&decide (p<c.2.2.1.length))=false:=by
    cases hx:(decide (0<=p)&&decide (p<c.2.2.1.length)) with
    |false=>rfl
    |true=>simp only[Bool.and_eq_true,decide_eq_true_eq] at hx;exact absurd hx hp
   rw[e2]
   by_cases h0:p<0
   ·rw[decide_eq_true h0];rfl
   ·rw[decide_eq_false h0,decide_eq_true (show p≥(length c.2.2.1:Int) by omega)];rfl
  ·obtain⟨hp0,YT⟩:=hp
   obtain⟨i,rfl⟩:∃ i:Nat,p=(i:Int):=⟨p.toNat,by omega⟩
   have e2:(decide (0<=(i:Int))&&decide ((i:Int)<c.2.2.1.length))=true:=by simp only[Bool.and_eq_true,decide_eq_true_eq];omega
   rw[decide_eq_false (show ¬(i:Int)<0 by omega),decide_eq_false (show ¬(i:Int)≥(length c.2.2.1:Int) by omega),e2]
   simp only[cond_false,Bool.true_and,toNat_natCast]
   rw[ai (show i<c.2.2.2.2.1.length by omega),ai (show i<c.2.2.2.1.length by omega),xo]
   simp only[cond_true]
   show(bif !qc (getD c.2.2.2.2.1 i oO) then kf c false else _)=_
   cases qc (getD c.2.2.2.2.1 i oO) with
   |false=>rfl
   |true=>
    simp only[Bool.not_true,cond_false,Bool.true_and]
    show(bif !cS (F9 c (i:Int) f s) then kf c false else _)=_
    cases cS (F9 c (i:Int) f s) with
    |false=>rfl
    |true=>exact lh (out:=DU c (i:Int) f s) h (ZS h _ _ _) rfl hN hl
end Go.Pv.R
namespace Go.Pv
open List Int IntKind
abbrev QX (l:List Int):Prop:=l.Pairwise (· < ·)
theorem ad':∀ {a b:List Int},QX a->QX b->(∀ x,x∈a↔x∈b)->a=b
 |[],[],_,_,_=>rfl
 |[],y::b,_,_,h=>by have:=(h y).2 (by simp);simp at this
 |x::a,[],_,_,h=>by have:=(h x).1 (by simp);simp at this
 |x::a,y::b,ha,hb,h=>by
  rw[QX,List.pairwise_cons] at ha hb;have Of:x=y:=by
   have h1:=(h x).1 (by simp);have h2:=(h y).2 (by simp);rcases List.mem_cons.1 h1 with h1 |h1
   ·exact h1
   rcases List.mem_cons.1 h2 with h2 |h2
   ·exact h2.symm
   have:=hb.1 x h1;have:=ha.1 y h2;omega
  subst Of;congr 1;refine ad' ha.2 hb.2 λz=>?_;constructor
  ·intro hz;rcases List.mem_cons.1 ((h z).1 (by simp[hz])) with e |e
   ·subst e;have:=ha.1 z hz;omega
   exact e
  intro hz;rcases List.mem_cons.1 ((h z).2 (by simp[hz])) with e |e
  ·subst e;have:=hb.1 z hz;omega
  exact e
def yP:List Int->Int->List Int
 |[],n=>[n]
 |x::r,n=>bif decide (x<n) then x::yP r n else bif x==n then x::r else n::x::r
theorem MZ:∀ (l:List Int) (n x:Int),x∈yP l n↔x=n∨x∈l
 |[],n,x=>by simp[yP]
 |y::r,n,x=>by
  simp only[yP];by_cases h:y<n
  ·rw[decide_eq_true h,cond_true,List.mem_cons,MZ r n x,List.mem_cons];constructor
   ·rintro(h |h |h)<;>simp[h]
   rintro(h |h |h)<;>simp[h]
  rw[decide_eq_false h,cond_false];by_cases e:y=n
  ·subst e;simp
  rw[beq_eq_false_iff_ne.2 e,cond_false];simp
theorem HG:∀ {l:List Int} {n:Int},QX l->QX (yP l n)
 |[],n,_=>by simp[yP,QX]
 |y::r,n,h=>by
  rw[QX,List.pairwise_cons] at h;simp only[yP];by_cases hy:y<n
  ·rw[decide_eq_true hy,cond_true,QX,List.pairwise_cons];refine⟨λz hz=>?_,HG h.2⟩;rcases(MZ r n z).1 hz with e |e
   ·omega
   exact h.1 z e
  rw[decide_eq_false hy,cond_false];by_cases e:y=n
  ·subst e;simp only[beq_self_eq_true,cond_true,QX,List.pairwise_cons];exact h
  rw[beq_eq_false_iff_ne.2 e,cond_false,QX,List.pairwise_cons,List.pairwise_cons];refine⟨λz hz=>?_,h⟩;rcases List.mem_cons.1 hz with e2 |e2
  ·omega
  have:=h.1 z e2;omega
theorem M0:∀ (l:List Int) (n:Int),(yP l n).length<=l.length+1
 |[],n=>by simp[yP]
 |y::r,n=>by
  simp only[yP];have:=M0 r n;cases decide (y<n) with
  |true=>simp only[cond_true,List.length_cons];omega
  |false=>cases y==n<;>simp
theorem afE (l:List Int) (x:Int):x∈tc l↔x∈l:=(EX l).mem_iff
theorem ai7 (l:List Int):(tc l).Pairwise (·<=·):=OL l
theorem xq:∀ (r:List Int) (x:Int),(x::r).Pairwise (·<=·)->QX (x::ia x r)/\∀ z,z∈x::ia x r↔z∈x::r
 |[],x,_=>by simp[ia,QX]
 |y::r,x,h=>by
  rw[List.pairwise_cons] at h;simp only[ia];by_cases e:y=x
  ·subst e;simp only[beq_self_eq_true,cond_true];obtain⟨h1,h2⟩:=xq r y h.2;refine⟨h1,λz=>(h2 z).trans ?_⟩;simp
  rw[beq_eq_false_iff_ne.2 e,cond_false];obtain⟨h1,h2⟩:=xq r y h.2;have du:x<y:=(by have:=h.1 y (by simp);omega);refine⟨?_,λz=>?_⟩
  ·rw[QX,List.pairwise_cons];refine⟨λz hz=>?_,h1⟩;have h3:QX (y::ia y r):=h1;rw[QX,List.pairwise_cons] at h3;rcases List.mem_cons.1 hz with e2 |e2
   ·omega
   have:=h3.1 z e2;omega
  rw[List.mem_cons,h2 z];simp only[List.mem_cons]
theorem Uy (l:List Int) (h:l.Pairwise (·<=·)):QX (jM l)/\∀ z,z∈jM l↔z∈l:=by
 cases l with
 |nil=>simp[jM,QX]
 |cons x r=>exact xq r x h
end Go.Pv
namespace Go.Pv.R
open List Int IntKind
def oq:List Int->Int->Nat
 |[],_=>0
 |x::r,n=>bif decide (x<n) then oq r n+1 else 0
theorem aea:∀ (l:List Int) (n:Int),oq l n<=l.length
 |[],_=>Nat.le_refl _
 |x::r,n=>by simp only[oq];have:=aea r n;cases decide (x<n)<;>simp<;>omega
theorem ZT:∀ (l:List Int) (n:Int),yP l n=bif decide (oq l n<l.length)&&(l.getD (oq l n) 0==n) then l else l.take (oq l n)++[n]++l.drop (oq l n)
 |[],n=>rfl
 |x::r,n=>by
  by_cases h:x<n
  ·have hc:oq (x::r) n=oq r n+1:=(by simp only[oq];rw[decide_eq_true h];rfl);have hp:yP (x::r) n=x::yP r n:=(by simp only[yP];rw[decide_eq_true h];rfl);rw[hc,hp,ZT r n];simp only[List.length_cons,List.getD_cons_succ,List.take_succ_cons,List.drop_succ_cons];rw[show decide (oq r n+1<r.length+1)=decide (oq r n<r.length) from decide_eq_decide.2 (by omega)];cases (decide (oq r n<r.length)&&(r.getD (oq r n) 0==n))<;>simp
  have hc:oq (x::r) n=0:=(by simp only[oq];rw[decide_eq_false h];rfl);have hp:yP (x::r) n=bif x==n then x::r else n::x::r:=(by simp only[yP];rw[decide_eq_false h];rfl);rw[hc,hp];simp only[List.length_cons,List.getD_cons_zero,List.take_zero,List.drop_zero];rw[decide_eq_true (show 0<r.length+1 by omega),Bool.true_and];cases x==n<;>simp
theorem aeb {n:Int} {k:Int->Option aa}:∀ (r:List Int) (i m:Nat),i+r.length=m->ud (λ(i:Nat) (x:Int) (next:Option aa)=>bif (decide (x<n)) then next else k (i:Int)) (k (m:Int)) r i=k ((i+oq r n:Nat):Int)
 |[],i,m,h=>by simp only[ud,oq];rw[←h];rfl
 |x::r,i,m,h=>by
  simp only[ud,oq];cases decide (x<n) with
  |true=>simp only[cond_true];rw[aeb r (i+1) m (by simp only[List.length_cons] at h;omega)];congr 1;omega
  |false=>simp only[cond_false,Nat.add_zero]
theorem HI {N:Nat} {l:List Int} {n:Int} {kf:List Int->Option aa} (hl:l.length<=1048576) (hN:l.length<N):dI N l n kf=kf (yP l n):=by
 have hm:=aq;unfold dI;rw[OU (by omega) hN];have hc:=aea l n;have h2:(decide ((length ([]:List Int)+length l)*1<=4398046511104))=true:=decide_eq_true (by simp only[List.length_nil];omega);have hj:mP l n kf (oq l n:Int)=kf (l.take (oq l n)++[n]++l.drop (oq l n)):=by
  unfold mP;have d1:(decide ((0:Int)<=(0:Int))&&decide ((0:Int)<=(oq l n:Int))&&decide ((oq l n:Int)<=(length l:Int)))=true:=by simp;omega
  have d2:(decide ((0:Int)<=(oq l n:Int))&&decide ((oq l n:Int)<=(length l:Int))&&decide ((length l:Int)<=(length l:Int)))=true:=(by simp;omega);rw[d1,d2];have e1:List.drop (toNat 0) (List.take (toNat (oq l n:Int)) l)=l.take (oq l n):=(by simp);have e2:List.drop (toNat (oq l n:Int)) (List.take (toNat (length l:Int)) l)=l.drop (oq l n):=(by simp);rw[e1,e2];have l1:(l.take (oq l n)).length=oq l n:=(by rw[List.length_take];omega);have l2:(l.drop (oq l n)).length=l.length - oq l n:=List.length_drop;rw[decide_eq_true (by simp only[List.length_nil];omega),decide_eq_true (by simp only[List.length_append,List.length_cons,List.length_nil];omega),decide_eq_true (by simp only[List.length_append,List.length_cons,List.length_nil];omega)];simp only[cond_true,List.nil_append]
 have:=aeb (n:=n) (k:=λ(BA:Int)=>
  bif (decide (BA<(length l:Int))) then
   bif (aD BA (length l)) then
    bif ((getD l (toNat BA) (0:Int))==n) then
     bif (decide ((length ([]:(List Int))+length l)*1<=4398046511104)) then
      kf (([]:(List Int))++l)
     else none
    else
     mP l n kf BA
   else none
  else
   mP l n kf BA) l 0 l.length (by omega)
 refine this.trans ?_;simp only[Nat.zero_add];rw[hj,ZT];by_cases du:oq l n<l.length
 ·rw[decide_eq_true (show(oq l n:Int)<(length l:Int) by omega),decide_eq_true du,ai du,toNat_natCast,h2];simp only[cond_true,Bool.true_and,List.nil_append];cases getD l (oq l n) 0==n<;>rfl
 rw[decide_eq_false (show ¬(oq l n:Int)<(length l:Int) by omega),decide_eq_false du];rfl
theorem ale {N:Nat} {l:List Int} {kf:List Int->Option aa} (hl:l.length<=1048576):acb N l kf=kf (tc l):=by unfold acb;have:Nat.blt (length l) 4611686018427387904=true:=Nat.ble_eq_true_of_le (by omega);rw[this];rfl
theorem alf {N:Nat} {l:List Int} {kf:List Int->Option aa}:afC N l kf=kf (jM l):=rfl
end Go.Pv.R
namespace Go.Pv.R
open List Int IntKind
theorem M1 {α:Type} (l:List α) (k:Nat):List.drop (toNat 0) (List.take k l)=l.take k/\List.drop k (List.take (length l) l)=l.drop k:=by simp
def OZ (c:ax) (l:List ak):ax:=(l,c.2)
def ai8 (c:ax) (k:Nat):ax:=OZ c (c.1.take k++c.1.drop (k+1))
theorem M3 {c:ax} {N:Nat} {l:List ak} (h:bo c N) (hl:l.length<=1048700) (hN:l.length<N) (hm:∀ x:ak,x∈l->x.met.length<=1048700/\x.met.length<N):bo (OZ c l) N:=by have h0:=aq;exact⟨by show l.length<=_;omega,λx hx=>⟨by have:=(hm x hx).1;omega,(hm x hx).2⟩,hN,h.jl,h.jm,h.jN,h.rl,h.rN,h.sl,h.sN,h.bl,h.bN,h.ml,h.mN,h.n8,hl,λx hx=>(hm x hx).1,h.jb,h.jmb⟩
theorem ai9 {c:ax} {N:Nat} (h:bo c N) (k:Nat):bo (ai8 c k) N:=by
 have h1:=h.tb;have h2:=h.tN;have hl:(c.1.take k++c.1.drop (k+1)).length<=c.1.length:=by rw[List.length_append,List.length_take,List.length_drop];omega
 refine M3 h (by omega) (by omega) λx hx=>?_;have GM:x∈c.1:=by
  rcases List.mem_append.1 hx with hx |hx
  ·exact List.mem_of_mem_take hx
  exact List.mem_of_mem_drop hx
 exact⟨h.tmb x GM,(h.tm x GM).2⟩
def HJ (c:ax) (id:Int):Bool:=decide (0<=au c.1 id)&&(decide (c.2.2.1.length=0)&&decide ((c.1.getD (au c.1 id).toNat an).2.2.2.2.2.length=0))
def FD (c:ax) (id:Int):ax:=ai8 c (au c.1 id).toNat
theorem M4 {N:Nat} {c:ax} {id:Int} {kf:ax->Bool->Option aa} (h:bo c N) (hN:200<N) (hl:c.2.2.2.2.2.1.length+1<N): kO N c id kf=bif HJ c id then kf (qN c (FD c id) 6 id) (oo c (FD c id) 6 id) else kf c false:=by
 have hm:=aq;have htb:=h.tb;unfold kO;rw[bQ h,cF h.tl h.tN];unfold dL HJ FD;by_cases hf:au c.1 id<0
 ·rw[decide_eq_true hf,decide_eq_false (show ¬ 0<=au c.1 id by omega)];rfl
 ·obtain⟨k,hk,he,_⟩:=ck (p:=λx:ak=>x.1==id) (l:=c.1) hf
  have he':au c.1 id=(k:Int):=he
  rw[he',decide_eq_false (show ¬(k:Int)<0 by omega),decide_eq_true (show 0<=(k:Int) by omega),toNat_natCast,ai hk]
  simp only[cond_false,cond_true,Bool.true_and]
  by_cases asq:(c.1.getD k an).2.2.2.2.2.length=0
  rotate_left
  ·rw[decide_eq_true (show(length (c.1.getD k an).2.2.2.2.2:Int)>0 by omega),decide_eq_false asq,Bool.and_false]
   rfl
  ·rw[decide_eq_false (show ¬(length (c.1.getD k an).2.2.2.2.2:Int)>0 by omega),decide_eq_true asq]
   by_cases hr:c.2.2.1.length=0
   rotate_left
   ·rw[decide_eq_true (show(length c.2.2.1:Int)>0 by omega),decide_eq_false hr]
    rfl
   ·rw[decide_eq_false (show ¬(length c.2.2.1:Int)>0 by omega),decide_eq_true hr,wrap64 (n:=(k:Int)+1) (by omega) (by omega)]
    simp only[cond_false,Bool.and_true,cond_true]
    unfold aoH
    have d1:(decide ((0:Int)<=(k:Int))&&(decide ((k:Int)<=(k:Int)+1)&&decide ((k:Int)+1<=(length c.1:Int))))=true:=by simp;omega
    have e3:toNat ((k:Int)+1)=k+1:=by omega
    rw[d1,e3,toNat_natCast,cond_true]
    exact lh (out:=ai8 c k) h (ai9 h k) rfl hN hl
end Go.Pv.R
namespace Go.Pv.R
open List Int IntKind
end Go.Pv.R
namespace Go.Pv.R
open List Int IntKind
theorem ai' {α:Type} {l:List α} {z:α} {g:α->Int} (h:∀ (i:Nat) (hi:i<l.length),0<i->g (l.getD (i - 1) z)<g l[i]):∀ (j i:Nat) (hi:i<l.length),j<i->g (l.getD j z)<g l[i]:=by
 intro j i;induction i with
 |zero=>intro _ hj;omega
 |succ i ih=>
 intro hi hj;have h1:=h (i+1) hi (by omega);rw[Nat.add_sub_cancel] at h1;by_cases e:j=i
 ·subst e;exact h1
 have h2:=ih (by omega) (by omega);rw[af _ _ (by omega)] at h1;omega
theorem aja {α:Type} {xs:List α} {x z:α} {g:α->Int} {k:Nat} (hk:k<=xs.length) (hm:∀ (j i:Nat) (hi:i<(xs.take k++[x]++xs.drop k).length),j<i->g ((xs.take k++[x]++xs.drop k).getD j z)<g (xs.take k++[x]++xs.drop k)[i]): ∀ (i:Nat) (hi:i<xs.length),g xs[i]≠g x:=by
 intro i hi he;have hl:(xs.take k++[x]++xs.drop k).length=xs.length+1:=by simp only[List.length_append,List.length_take,List.length_drop,List.length_cons,List.length_nil];omega
 have du:(xs.take k).length=k:=by rw[List.length_take];omega
 have hkx:∀ (h:k<(xs.take k++[x]++xs.drop k).length),(xs.take k++[x]++xs.drop k)[k]=x:=λh=>by rw[List.getElem_append_left (by rw[List.length_append,du];simp),List.getElem_append_right (by omega)];simp[du]
 by_cases hik:i<k
 ·have h1:=hm i k (by omega) hik;rw[af _ _ (by omega),hkx,List.getElem_append_left (by rw[List.length_append,du];simp;omega),List.getElem_append_left (by omega),List.getElem_take] at h1;omega
 have h1:=hm k (i+1) (by omega) (by omega);rw[af _ _ (by omega),hkx,List.getElem_append_right (by rw[List.length_append,du];simp;omega),List.getElem_drop] at h1;have e2:k+(i+1 - (xs.take k++[x]).length)=i:=by rw[List.length_append,du];simp;omega
 simp only[e2] at h1;omega
theorem HK {α:Type} {p:α->Bool} {k:Int->Option aa}:∀ (r:List α) (i m:Nat),i+r.length=m->ud (λ(i:Nat) (x:α) (next:Option aa)=>bif p x then next else k (i:Int)) (k (m:Int)) r i=k ((i+(r.takeWhile p).length:Nat):Int)
 |[],i,m,h=>by simp only[List.length_nil,Nat.add_zero] at h;subst h;rfl
 |x::r,i,m,h=>by
  simp only[List.length_cons] at h;simp only[ud,List.takeWhile_cons];cases hp:p x with
  |false=>rfl
  |true=>simp only[cond_true,if_true,List.length_cons];rw[HK r (i+1) m (by omega)];congr 2;omega
theorem J2 {α:Type} (p:α->Bool) (l:List α):(l.takeWhile p).length<=l.length:=(List.takeWhile_sublist p).length_le
theorem asr {α:Type} {xs:List α} {x:α} {k s:Nat} (hk:k<=xs.length) (hl:xs.length<=1048700) (hs:s<=8):(decide ((0:Int)<=(k:Int))&&(decide ((k:Int)<=(length xs:Int))&&(Nat.blt 0 (length [x])&&Nat.ble ((length xs+length [x])*s) 4398046511104)))=true:=by have h1:(length xs+length [x])*s<=1048701*8:=Nat.mul_le_mul (by simp;omega) hs;rw[decide_eq_true (by omega),decide_eq_true (by omega)];simp only[Bool.true_and,Bool.and_eq_true];exact⟨rfl,by rw[Nat.ble_eq];omega⟩
def afF (id cg:Int):ak:=(id,(cg,(0,(0,(0,[])))))
def AS (l:List ak) (id:Int):Nat:=(l.takeWhile λx=>decide (x.1<id)).length
def wg (c:ax) (id cg:Int):ax:=OZ c (c.1.take (AS c.1 id)++[afF id cg]++c.1.drop (AS c.1 id))
theorem QY (l:List ak) (id:Int):AS l id<=l.length:=J2 _ _
theorem S7 {α:Type} {xs:List α} {x y:α} {k:Nat} (h:y∈xs.take k++[x]++xs.drop k):y∈xs∨y=x:=by
 rcases List.mem_append.1 h with h |h
 ·rcases List.mem_append.1 h with h |h
  ·exact .inl (List.mem_of_mem_take h)
  exact .inr (List.mem_singleton.1 h)
 exact .inl (List.mem_of_mem_drop h)
theorem ajb {α:Type} {xs:List α} {x:α} {k:Nat} (hk:k<=xs.length):(xs.take k++[x]++xs.drop k).length=xs.length+1:=by simp only[List.length_append,List.length_take,List.length_drop,List.length_cons,List.length_nil];omega
theorem ZU {c:ax} {N:Nat} {id cg:Int} (h:bo c N) (hb:c.1.length<=1048576) (hN:c.1.length+1<N):bo (wg c id cg) N:=by
 have hl:=ajb (x:=afF id cg) (QY c.1 id);have h8:=h.n8;refine M3 h (by omega) (by omega) λx hx=>?_;rcases S7 hx with hx |rfl
 ·exact⟨h.tmb x hx,(h.tm x hx).2⟩
 exact⟨by show(0:Nat)<=_;omega,by show(0:Nat)<_;omega⟩
theorem ZV {c:ax} {id cg:Int} (h:ar (wg c id cg).1=true):au c.1 id<0:=by
 unfold ar at h;simp only[Bool.and_eq_true] at h;have hm:=K8 h.2.1;have wU:=aja (xs:=c.1) (x:=afF id cg) (z:=an) (g:=λx:ak=>x.1) (QY c.1 id) hm;by_cases hf:au c.1 id<0
 ·exact hf
 obtain⟨k,hk,_,h1,_⟩:=ck (p:=λx:ak=>x.1==id) (l:=c.1) hf;exact absurd (beq_iff_eq.1 h1) (wU k hk)
theorem alg {c:ax} {id cg:Int} (hf: ¬au c.1 id<0):oo c (wg c id cg) 1 id=false:=by
 cases hd:oo c (wg c id cg) 1 id with
 |false=>rfl
 |true=>unfold oo bY at hd;simp only[Bool.and_eq_true] at hd;exact absurd (ZV hd.2.2.1) hf
theorem Jm {N:Nat} {c z:ax} {id cg:Int} {k:Int->Option aa} (h:bo c N):fW id cg c z c N k (0:Int)=k ((AS c.1 id:Nat):Int):=by rw[KZ h.tl h.tN,HK c.1 0 c.1.length (by omega),Nat.zero_add];rfl
theorem O0 {N:Nat} {c:ax} {id cg:Int} {kf:ax->Bool->Option aa} (h:bo c N) (hb:c.1.length<=1048576) (hN1:c.1.length+1<N) (hN:200<N) (hl:c.2.2.2.2.2.1.length+1<N): rv N c id cg kf=bif decide (c.2.2.1.length=0) then kf (qN c (wg c id cg) 1 id) (oo c (wg c id cg) 1 id) else kf c false:=by
 have hm:=aq;have hk:=QY c.1 id;unfold rv;rw[lf h,Jm h];show(bif (decide ((0:Int)<=(0:Int))&&decide ((0:Int)<=((AS c.1 id:Nat):Int))&&decide (((AS c.1 id:Nat):Int)<=(length c.1:Int))) then _ else _)=_;have d1:(decide ((0:Int)<=(0:Int))&&decide ((0:Int)<=((AS c.1 id:Nat):Int))&&decide (((AS c.1 id:Nat):Int)<=(length c.1:Int)))=true:=by simp;omega
 have d2:(decide ((0:Int)<=((AS c.1 id:Nat):Int))&&decide (((AS c.1 id:Nat):Int)<=(length c.1:Int))&&decide ((length c.1:Int)<=(length c.1:Int)))=true:=by simp;omega
 have l1:(c.1.take (AS c.1 id)).length<=c.1.length:=by rw[List.length_take];omega
 have l2:(c.1.drop (AS c.1 id)).length<=c.1.length:=by rw[List.length_drop];omega
 rw[d1,cond_true,toNat_natCast,(M1 c.1 (AS c.1 id)).1,om (by omega) (λx hx=>h.tmb x (List.mem_of_mem_take hx)) (by omega),decide_eq_true (by simp only[List.length_cons,List.length_nil];omega),cond_true];show(bif (decide ((0:Int)<=((AS c.1 id:Nat):Int))&&decide (((AS c.1 id:Nat):Int)<=(length c.1:Int))&&decide ((length c.1:Int)<=(length c.1:Int))) then _ else _)=_;rw[d2,cond_true,toNat_natCast];show jY N (List.drop (AS c.1 id) (List.take (length c.1) c.1)) _=_;rw[(M1 c.1 (AS c.1 id)).2,om (by omega) (λx hx=>h.tmb x (List.mem_of_mem_drop hx)) (by omega),decide_eq_true (by simp only[List.length_append,List.length_cons,List.length_nil];omega),cond_true];unfold kI;refine(lg (out:=wg c id cg) h (λ_=>ZU h hb hN1) hN hl).trans ?_;by_cases hr:c.2.2.1.length=0
 ·rw[decide_eq_true hr,decide_eq_false (show ¬(length c.2.2.1:Int)>0 by omega)];rfl
 rw[decide_eq_false hr,decide_eq_true (show(length c.2.2.1:Int)>0 by omega)];rfl
theorem Jn {N:Nat} {c z:ax} {id cg:Int} {k:Int->Option aa} (h:bo c N):gb id cg c z c N k (0:Int)=k ((AS c.1 id:Nat):Int):=by rw[K5 h.tl h.tN,HK c.1 0 c.1.length (by omega),Nat.zero_add];rfl
theorem O1 {N:Nat} {c:ax} {id cg:Int} {kf:ax->Bool->Option aa} (h:bo c N) (hb:c.1.length<=1048576) (hN1:c.1.length+1<N) (hN:200<N) (hl:c.2.2.2.2.2.1.length+1<N):
  gw N c id cg kf=bif decide (c.2.2.1.length=0) then kf (qN c (wg c id cg) 1 id) (oo c (wg c id cg) 1 id) else kf c false:=by
 have hm:=aq
 have hk:=QY c.1 id
 unfold gw
 rw[bQ h,cF h.tl h.tN]
 by_cases hf:au c.1 id<0
 rotate_left
 ·rw[decide_eq_true (show au c.1 id≥0 by omega),cond_true]
  have hd:=alg (cg:=cg) hf
  have hc:qN c (wg c id cg) 1 id=c:=by unfold qN;rw[hd];rfl
  rw[hd,hc]
  cases decide (c.2.2.1.length=0)<;>rfl
 ·rw[decide_eq_false (show ¬au c.1 id≥0 by omega),cond_false]
  unfold dL
  by_cases hr:c.2.2.1.length=0
  rotate_left
  ·rw[decide_eq_false hr,decide_eq_true (show(length c.2.2.1:Int)>0 by omega)];rfl
  ·rw[decide_eq_true hr,decide_eq_false (show ¬(length c.2.2.1:Int)>0 by omega)]
   simp only[cond_false,cond_true]
   rw[Jn h]
   show akY N c.1 ((AS c.1 id:Nat):Int) [afF id cg] _=_
   unfold akY
   rw[asr hk (by omega) (by decide),cond_true,toNat_natCast]
   exact lh (out:=wg c id cg) h (ZU h hb hN1) rfl hN hl
def S8 (c:ax) (l:List bc):ax:=(c.1,(l,c.2.2))
theorem Uz {c:ax} {N:Nat} {l:List bc} (h:bo c N) (hl:l.length<=1048700) (hN:l.length<N) (hm:∀ x:bc,x∈l->x.2.2.length<=1048700/\x.2.2.length<N):bo (S8 c l) N:=by have h0:=aq;exact⟨h.tl,h.tm,h.tN,by show l.length<=_;omega,λx hx=>⟨by have:=(hm x hx).1;omega,(hm x hx).2⟩,hN,h.rl,h.rN,h.sl,h.sN,h.bl,h.bN,h.ml,h.mN,h.n8,h.tb,h.tmb,hl,λx hx=>(hm x hx).1⟩
def alh (id cg:Int):bc:=(id,(cg,[]))
def FE (l:List bc) (id:Int):Nat:=(l.takeWhile λx=>decide (x.1<id)).length
def xr (c:ax) (id cg:Int):ax:=S8 c (c.2.1.take (FE c.2.1 id)++[alh id cg]++c.2.1.drop (FE c.2.1 id))
theorem QZ (l:List bc) (id:Int):FE l id<=l.length:=J2 _ _
theorem VP {c:ax} {N:Nat} {id cg:Int} (h:bo c N) (hb:c.2.1.length<=1048576) (hN:c.2.1.length+1<N):bo (xr c id cg) N:=by
 have hl:=ajb (x:=alh id cg) (QZ c.2.1 id);have h8:=h.n8;refine Uz h (by omega) (by omega) λx hx=>?_;rcases S7 hx with hx |rfl
 ·exact⟨h.jmb x hx,(h.jm x hx).2⟩
 exact⟨by show(0:Nat)<=_;omega,by show(0:Nat)<_;omega⟩
theorem afG {c:ax} {id cg:Int} (h:cf (xr c id cg).2.1=true):dA c.2.1 id<0:=by
 unfold cf at h;simp only[Bool.and_eq_true] at h;have hm:=ai' (l:=(xr c id cg).2.1) (z:=dY) (g:=λx:bc=>x.1) (λi hi h0=>by
  have h1:=(iv.1 h.2) i hi
  rw[Nat.zero_add] at h1
  unfold AQ at h1
  simp only[Bool.and_eq_true,Bool.or_eq_true,decide_eq_true_eq] at h1
  exact h1.2.2.1.resolve_left (by omega))
 have wU:=aja (xs:=c.2.1) (x:=alh id cg) (z:=dY) (g:=λx:bc=>x.1) (QZ c.2.1 id) hm;by_cases hf:dA c.2.1 id<0
 ·exact hf
 obtain⟨k,hk,_,h1,_⟩:=ck (p:=λx:bc=>x.1==id) (l:=c.2.1) hf;exact absurd (beq_iff_eq.1 h1) (wU k hk)
theorem ajc {c:ax} {id cg:Int} (hf: ¬dA c.2.1 id<0):oo c (xr c id cg) 2 id=false:=by
 cases hd:oo c (xr c id cg) 2 id with
 |false=>rfl
 |true=>unfold oo bY at hd;simp only[Bool.and_eq_true] at hd;exact absurd (afG hd.2.2.2.1) hf
theorem HL {N:Nat} {c z:ax} {id cg:Int} {k:Int->Option aa} (h:bo c N):eQ id cg c z c N k (0:Int)=k ((FE c.2.1 id:Nat):Int):=by rw[I8 h.jl h.jN,HK c.2.1 0 c.2.1.length (by omega),Nat.zero_add];rfl
theorem M5 {N:Nat} {c:ax} {id cg:Int} {kf:ax->Bool->Option aa} (h:bo c N) (hb:c.2.1.length<=1048576) (hN1:c.2.1.length+1<N) (hN:200<N) (hl:c.2.2.2.2.2.1.length+1<N): pZ N c id cg kf=kf (qN c (xr c id cg) 2 id) (oo c (xr c id cg) 2 id):=by
 have hm:=aq;have hk:=QZ c.2.1 id;unfold pZ;rw[lf h,HL h];show(bif (decide ((0:Int)<=(0:Int))&&decide ((0:Int)<=((FE c.2.1 id:Nat):Int))&&decide (((FE c.2.1 id:Nat):Int)<=(length c.2.1:Int))) then _ else _)=_;have d1:(decide ((0:Int)<=(0:Int))&&decide ((0:Int)<=((FE c.2.1 id:Nat):Int))&&decide (((FE c.2.1 id:Nat):Int)<=(length c.2.1:Int)))=true:=by simp;omega
 have d2:(decide ((0:Int)<=((FE c.2.1 id:Nat):Int))&&decide (((FE c.2.1 id:Nat):Int)<=(length c.2.1:Int))&&decide ((length c.2.1:Int)<=(length c.2.1:Int)))=true:=by simp;omega
 have l1:(c.2.1.take (FE c.2.1 id)).length<=c.2.1.length:=by rw[List.length_take];omega
 have l2:(c.2.1.drop (FE c.2.1 id)).length<=c.2.1.length:=by rw[List.length_drop];omega
 rw[d1,cond_true,toNat_natCast,(M1 c.2.1 (FE c.2.1 id)).1,uY (by omega) (λx hx=>h.jmb x (List.mem_of_mem_take hx)) (by omega),decide_eq_true (by simp only[List.length_cons,List.length_nil];omega),cond_true];show(bif (decide ((0:Int)<=((FE c.2.1 id:Nat):Int))&&decide (((FE c.2.1 id:Nat):Int)<=(length c.2.1:Int))&&decide ((length c.2.1:Int)<=(length c.2.1:Int))) then _ else _)=_;rw[d2,cond_true,toNat_natCast];show kH N (List.drop (FE c.2.1 id) (List.take (length c.2.1) c.2.1)) _=_;rw[(M1 c.2.1 (FE c.2.1 id)).2,uY (by omega) (λx hx=>h.jmb x (List.mem_of_mem_drop hx)) (by omega),decide_eq_true (by simp only[List.length_append,List.length_cons,List.length_nil];omega),cond_true];exact lg (out:=xr c id cg) h (λ_=>VP h hb hN1) hN hl
theorem HM {N:Nat} {c z:ax} {id cg:Int} {k:Int->Option aa} (h:bo c N):eU id cg c z c N k (0:Int)=k ((FE c.2.1 id:Nat):Int):=by rw[Je h.jl h.jN,HK c.2.1 0 c.2.1.length (by omega),Nat.zero_add];rfl
theorem M6 {N:Nat} {c:ax} {id cg:Int} {kf:ax->Bool->Option aa} (h:bo c N) (hb:c.2.1.length<=1048576) (hN1:c.2.1.length+1<N) (hN:200<N) (hl:c.2.2.2.2.2.1.length+1<N):
  jd N c id cg kf=kf (qN c (xr c id cg) 2 id) (oo c (xr c id cg) 2 id):=by
 have hm:=aq
 have hk:=QZ c.2.1 id
 unfold jd
 rw[bQ h,yM h.jl h.jN]
 by_cases hf:dA c.2.1 id<0
 rotate_left
 ·rw[decide_eq_true (show dA c.2.1 id≥0 by omega),cond_true]
  have hd:=ajc (cg:=cg) hf
  have hc:qN c (xr c id cg) 2 id=c:=by unfold qN;rw[hd];rfl
  rw[hd,hc]
 ·rw[decide_eq_false (show ¬dA c.2.1 id≥0 by omega),cond_false,HM h]
  show ak2 N c.2.1 ((FE c.2.1 id:Nat):Int) [alh id cg] _=_
  unfold ak2
  rw[asr hk (by omega) (by decide),cond_true,toNat_natCast]
  exact lh (out:=xr c id cg) h (VP h hb hN1) rfl hN hl
end Go.Pv.R
namespace Go.Pv.R
open List Int IntKind
theorem anh (l:List UInt8):ByteArray.size ⟨l.toArray⟩=l.length:=by simp[ByteArray.size]
theorem J3:∀ (m u:Nat),u<10^(m+1)->(Lib.decDigits u).length<=m+1:=by
 intro m;induction m with
 |zero=>intro u hu;rw[Lib.decDigits,dif_pos (by omega)];simp
 |succ m ih=>
 intro u hu;rw[Lib.decDigits];by_cases h1:u<10
 ·rw[dif_pos h1];simp
 rw[dif_neg h1];have:=ih (u/10) (by rw[Nat.pow_succ] at hu;omega);simp only[List.length_append,List.length_cons,List.length_nil];omega
def Jo (n:Int):Prop:=-9223372036854775808<=n/\n<=9223372036854775807
theorem gR {n:Int} (h:Jo n):(uc n).size<=20:=by
 unfold uc;rw[anh];unfold Lib.itoa;obtain⟨h1,h2⟩:=h;split
 ·have:=J3 18 n.natAbs (by omega);simp only[List.length_cons];omega
 have:=J3 18 n.toNat (by omega);omega
theorem cM {N:Nat} {n:Int} {kf:ByteArray->Option aa} (h:Jo n):aM N n kf=kf (uc n):=by unfold aM S75;rw[decide_eq_true h.1,decide_eq_true h.2];rfl
end Go.Pv.R
namespace Go.Pv.R
open List Int IntKind
theorem afH {a b:ByteArray} (h:a.data.toList=b.data.toList):a=b:=ByteArray.ext (Array.ext' h)
theorem M7 (a b:ByteArray):(a++b).data.toList=a.data.toList++b.data.toList:=by rw[ByteArray.data_append,Array.toList_append]
theorem dS (a b:ByteArray):(a++b).size=a.size+b.size:=ByteArray.size_append
def VQ (sep:ByteArray) (r:List ByteArray):ByteArray:=⟨(Lib.joinTail sep.data.toList (r.map (·.data.toList))).toArray⟩
theorem S9 (sep x:ByteArray) (r:List ByteArray):BQ (x::r) sep=x++VQ sep r:=by apply afH;simp only[M7,VQ,BQ,List.map_cons,Lib.join_cons]
theorem Ta (sep:ByteArray):∀ (r:List ByteArray) (m:Nat),(∀ y∈r,y.size<=m)->(VQ sep r).size<=(sep.size+m)*r.length
 |[],m,_=>by show(0:Nat)<=_;omega
 |x::r,m,h=>by have ih:=Ta sep r m (λy hy=>h y (by simp[hy]));have hx:=h x (by simp);have e:VQ sep (x::r)=(sep++x)++VQ sep r:=(by apply afH;simp only[M7,VQ,Lib.joinTail,List.map_cons,List.flatten_cons,List.append_assoc]);rw[e,dS,dS,List.length_cons,Nat.mul_succ];omega
theorem acu {sep:ByteArray} {r:List ByteArray} {m:Nat} (h:∀ y∈r,y.size<=m):(BQ r sep).size<=(sep.size+m)*r.length:=by
 cases r with
 |nil=>show(0:Nat)<=_;omega
 |cons x r=>rw[S9,dS,List.length_cons,Nat.mul_succ];have:=Ta sep r m (λy hy=>h y (by simp[hy]));have:=h x (by simp);omega
def HN (l:List ByteArray):ByteArray:=match l with
 |[]=>oc
 |x::r=>BQ (x::r) BT
theorem AT {N:Nat} {l:List ByteArray} {kf:ByteArray->Option aa} (hm:∀ y∈l,y.size<=200) (hl:l.length<=1048576):nq N l kf=kf (HN l):=by
 unfold nq;cases l with
 |nil=>rfl
 |cons x r=>have e2:((length (x::r):Int)==(0:Int))=false:=beq_eq_false_iff_ne.2 (by simp only[List.length_cons];omega);rw[e2,cond_false];unfold ak5 HN;have h1:=acu (sep:=BT) hm;have e1:BT.size=1:=rfl;have h2:(BT.size+200)*(x::r).length<=(BT.size+200)*1048576:=Nat.mul_le_mul_left _ hl;have e3:Nat.ble (length (x::r)) 140737488355328=true:=(by rw[Nat.ble_eq];omega);have e4:Nat.ble (ByteArray.size (BQ (x::r) BT)) 140737488355328=true:=(by rw[Nat.ble_eq];omega);rw[e3,e4];rfl
theorem ns {α β:Type} {c:Nat->α->Bool} {f:Nat->α->β} {y:β}:∀ {l:List α} {i:Nat},y∈gO c f l i->∃ j x,x∈l/\y=f j x
 |[],i,h=>by simp[gO] at h
 |x::r,i,h=>by
  simp only[gO] at h;cases hc:c i x with
  |true=>
  rw[hc,cond_true] at h;rcases List.mem_cons.1 h with rfl |h
  ·exact⟨i,x,by simp,rfl⟩
  obtain⟨j,z,hz,e⟩:=ns h;exact⟨j,z,by simp[hz],e⟩
  |false=>rw[hc,cond_false] at h;obtain⟨j,z,hz,e⟩:=ns h;exact⟨j,z,by simp[hz],e⟩
def Tb (l:List Int):List ByteArray:=gO (λ_ _=>true) (λ_ x=>uc x) l 0
theorem ZW {l:List Int} (h:∀ x∈l,Jo x) (hl:l.length<=1048576):(∀ y∈Tb l,y.size<=200)/\(Tb l).length<=1048576:=by have:=qa (c:=λ_ _=>true) (f:=λ_ (x:Int)=>uc x) l 0;refine⟨λy hy=>?_,by unfold Tb;omega⟩;obtain⟨j,x,hx,rfl⟩:=ns hy;have:=gR (h x hx);omega
theorem o9 {N:Nat} {l:List Int} {kf:ByteArray->Option aa} (h:∀ x∈l,Jo x) (hl:l.length<=1048576) (hN:l.length+20<N):br N l kf=kf (HN (Tb l)):=by
 have h0:=aq;have hlen:=qa (c:=λ_ _=>true) (f:=λ_ (x:Int)=>uc x) l 0;unfold br;rw[DJ (by omega) (by omega),nr (l:=l) (c:=λ_ _=>true) (f:=λ_ x=>uc x) (λi x s next hi e hs=>?_) l 0 [] rfl (by simp)]
 ·rw[List.nil_append];exact AT (ZW h hl).1 (ZW h hl).2
 rw[cM (h x (by rw[←e];exact List.getElem_mem hi)),aso (by simp only[List.length_cons,List.length_nil];omega) (by decide)];rfl
end Go.Pv.R
namespace Go.Pv.R
open List Int IntKind
theorem sm {a b:Nat} (h:a+b<=4000):decide (a+b<=9223372036854775807)=true:=decide_eq_true (by omega)
theorem ZX {n:Nat} (h:n<=maxLen):Jo (n:Int):=by have:=aq;exact⟨by omega,by omega⟩
def ZY (x:ak):ByteArray:=((((((uc x.1++uf)++uc x.2.2.1)++Ay)++uc (length x.2.2.2.2.2:Int))++Hg)++uc x.2.2.2.1)
structure Xl (x:ak):Prop where
 h1:Jo x.1
 h2:Jo x.2.2.1
 h3:Jo (length x.2.2.2.2.2:Int)
 h4:Jo x.2.2.2.1
theorem acv {x:ak} (h:Xl x):(ZY x).size<=200:=by have a1:=gR h.h1;have a2:=gR h.h2;have a3:=gR h.h3;have a4:=gR h.h4;have c1:uf.size=1:=rfl;have c2:Ay.size=1:=rfl;have c3:Hg.size=1:=rfl;unfold ZY;simp only[dS];omega
def Tc (l:List ak):List ByteArray:=gO (λ_ _=>true) (λ_ x=>ZY x) l 0
theorem afI {l:List ak} (h:∀ x∈l,Xl x) (hl:l.length<=1048576):(∀ y∈Tc l,y.size<=200)/\(Tc l).length<=l.length:=by refine⟨λy hy=>?_,qa l 0⟩;obtain⟨j,x,hx,rfl⟩:=ns hy;exact acv (h x hx)
theorem Jp {N:Nat} {l:List ak} {kf:ByteArray->Option aa} (h:∀ x∈l,Xl x) (hl:l.length<=1048576) (hN:l.length+20<N):kr N l kf=kf (HN (Tc l)):=by
 have h0:=aq;unfold kr;rw[GD (by omega) (by omega),nr (l:=l) (c:=λ_ _=>true) (f:=λ_ x=>ZY x) (λi x s next hi e hs=>?_) l 0 [] rfl (by simp)]
 ·rw[List.nil_append];have hb:=afI h hl;have hb2:=hb.2;show nq N (Tc l) kf=_;exact AT hb.1 (by omega)
 have q:=h x (by rw[←e];exact List.getElem_mem hi);have a1:=gR q.h1;have a2:=gR q.h2;have a3:=gR q.h3;have a4:=gR q.h4;have c1:uf.size=1:=rfl;have c2:Ay.size=1:=rfl;have c3:Hg.size=1:=rfl;rw[cM q.h1,sm (by first |omega |(simp only[dS];omega)),cond_true,cM q.h2,sm (by first |omega |(simp only[dS];omega)),cond_true,sm (by first |omega |(simp only[dS];omega)),cond_true,cM q.h3,sm (by first |omega |(simp only[dS];omega)),cond_true,sm (by first |omega |(simp only[dS];omega)),cond_true,cM q.h4,sm (by first |omega |(simp only[dS];omega)),cond_true,decide_eq_true (by simp only[List.length_cons,List.length_nil];omega)];rfl
def ZZ (s:List Int) (i:Nat):ByteArray:=bif decide (i<s.length) then uc (s.getD i 0) else PY
def Z0 (s:List Int) (i:Nat) (x:cW):ByteArray:=((((uc x.1++oc)++uc x.2)++Az)++ZZ s i)
def Td (s:List Int) (l:List cW):List ByteArray:=gO (λ_ _=>true) (Z0 s) l 0
theorem Te {s:List Int} (h:∀ x∈s,Jo x) (i:Nat):(ZZ s i).size<=20:=by
 unfold ZZ;by_cases hi:i<s.length
 ·rw[decide_eq_true hi,cond_true,af _ _ hi];exact gR (h _ (List.getElem_mem hi))
 rw[decide_eq_false hi];show PY.size<=20;have:PY.size=1:=rfl;omega
theorem afJ {s:List Int} {l:List cW} (hs:∀ x∈s,Jo x) (h:∀ x∈l,Jo x.1/\Jo x.2):(∀ y∈Td s l,y.size<=200)/\(Td s l).length<=l.length:=by refine⟨λy hy=>?_,qa l 0⟩;obtain⟨j,x,hx,rfl⟩:=ns hy;obtain⟨q1,q2⟩:=h x hx;have a1:=gR q1;have a2:=gR q2;have a3:=Te hs j;have c1:oc.size=1:=rfl;have c2:Az.size=1:=rfl;unfold Z0;simp only[dS];omega
theorem Jq {N:Nat} {l:List cW} {s:List Int} {kf:ByteArray->Option aa} (hs:∀ x∈s,Jo x) (h:∀ x∈l,Jo x.1/\Jo x.2) (hl:l.length<=1048576) (hN:l.length+20<N):ku N l s kf=kf (HN (Td s l)):=by
 have h0:=aq;unfold ku;rw[GF (by omega) (by omega),nr (l:=l) (c:=λ_ _=>true) (f:=Z0 s) (λi x s' next hi e yC=>?_) l 0 [] rfl (by simp)]
 ·rw[List.nil_append];have hb:=afJ hs h;have hb2:=hb.2;show nq N (Td s l) kf=_;exact AT hb.1 (by omega)
 obtain⟨q1,q2⟩:=h x (by rw[←e];exact List.getElem_mem hi);have a1:=gR q1;have a2:=gR q2;have a3:=Te hs i;have c1:oc.size=1:=rfl;have c2:Az.size=1:=rfl;have c3:PY.size=1:=rfl;unfold Z0 ZZ;unfold ZZ at a3;by_cases yB:i<s.length
 ·have q3:=hs _ (List.getElem_mem yB);rw[decide_eq_true yB,cond_true,af _ _ yB] at a3 ⊢;rw[decide_eq_true (show(i:Int)<(length s:Int) by omega),cond_true,ai yB,cond_true,toNat_natCast,af _ _ yB,cM q3];rw[cM q1,sm (by first |omega |(simp only[dS];omega)),cond_true,cM q2,sm (by first |omega |(simp only[dS];omega)),cond_true,sm (by first |omega |(simp only[dS];omega)),cond_true,sm (by first |omega |(simp only[dS];omega)),cond_true,decide_eq_true (by simp only[List.length_cons,List.length_nil];omega)];rfl
 rw[decide_eq_false yB,cond_false,decide_eq_false (show ¬(i:Int)<(length s:Int) by omega),cond_false];rw[cM q1,sm (by first |omega |(simp only[dS];omega)),cond_true,cM q2,sm (by first |omega |(simp only[dS];omega)),cond_true,sm (by first |omega |(simp only[dS];omega)),cond_true,sm (by first |omega |(simp only[dS];omega)),cond_true,decide_eq_true (by simp only[List.length_cons,List.length_nil];omega)];rfl
theorem ajd {c:ax} {N:Nat} (h:bo c N) (hp:Jo c.2.2.2.2.2.2):∀ x∈[(length c.1:Int),(length c.2.1:Int),(length c.2.2.1:Int),(length (aX c):Int),c.2.2.2.2.2.2,(length c.2.2.2.2.2.1:Int)],Jo x:=by
 have h0:=aq;have h1:=IM c;have h2:=h.bl;have h3:=h.rl;have h4:=h.ml;intro x hx;simp only[List.mem_cons,List.mem_nil_iff,or_false] at hx;rcases hx with rfl |rfl |rfl |rfl |rfl |rfl
 ·exact ZX h.tl
 ·exact ZX h.jl
 ·exact ZX (by omega)
 ·exact ZX (by omega)
 ·exact hp
 exact ZX (by omega)
end Go.Pv.R
namespace Go.Pv.R
open List Int IntKind
end Go.Pv.R
namespace Go.Pv.R
open List Int IntKind
theorem sO {N:Nat} {a b:Int} {kf:Int->Option aa}:jF N a b kf=kf (bif decide (a<b) then -1 else bif decide (a>b) then 1 else 0):=by unfold jF cmp_isNaN_int;simp only[bne_self_eq_false,cond_false];cases decide (a<b)<;>cases decide (a>b)<;>rfl
end Go.Pv.R
namespace Go.Pv.R
open List Int IntKind
def wh (l:List UInt8):ByteArray:=⟨l.toArray⟩
theorem VR (b:ByteArray):wh b.data.toList=b:=afH (by simp[wh])
theorem DV (l:List UInt8):(wh l).data.toList=l:=by simp[wh]
def spl (c:UInt8):List UInt8->List (List UInt8)
 |[]=>[[]]
 |b::r=>bif b==c then []::spl c r else(match spl c r with
  |[]=>[[b]]
  |w::ws=>(b::w)::ws)
theorem Tf (c:UInt8):∀ l:List UInt8,Lib.splitK [c] 0 (l.count c) l=spl c l
 |[]=>rfl
 |b::l=>by
  have ih:=Tf c l;by_cases hb:b=c
  ·subst hb;have e1:(b::l).count b=l.count b+1:=by simp
   have e2:Lib.index (b::l) [b]=0:=(by rw[Lib.index_one];unfold Lib.indexByte;simp);rw[e1];unfold Lib.splitK;rw[e2,if_neg (by decide)];simp only[spl,beq_self_eq_true,cond_true];rw[←ih];rfl
  have hbc:(b==c)=false:=beq_eq_false_iff_ne.2 hb;have e1:(b::l).count c=l.count c:=List.count_cons_of_ne (by simpa using hb);rw[e1];simp only[spl,hbc,cond_false];rw[←ih];cases hk:l.count c with
  |zero=>rfl
  |succ k=>
  have hm:c∈l:=List.count_pos_iff.1 (by omega);have hge:=Lib.indexByte_ge l c;have wU:Lib.indexByte l c≠ -1:=by
   intro hx;have:∀ (l:List UInt8),c∈l->Lib.indexByte l c≠ -1:=by
    intro l;induction l with
    |nil=>intro h;cases h
    |cons d l ih=>
    intro h;unfold Lib.indexByte;by_cases hd:d=c
    ·subst hd;simp
    rw[if_neg (by simpa using hd)];have h1:=ih (by rcases List.mem_cons.1 h with h |h;exact absurd h.symm hd;exact h);have h2:=Lib.indexByte_ge l c;rw[if_neg (by simpa using h1)];omega
   exact this l hm hx
  have e2:Lib.index (b::l) [c]=Lib.indexByte l c+1:=(by rw[Lib.index_one];show(if b==c then(0:Int) else if Lib.indexByte l c== -1 then -1 else Lib.indexByte l c+1)=_;rw[if_neg (by simpa using hb),if_neg (by simpa using wU)]);unfold Lib.splitK;rw[e2,Lib.index_one,if_neg (by simp;omega),if_neg (by simpa using wU)];have e3:(Lib.indexByte l c+1).toNat=(Lib.indexByte l c).toNat+1:=(by omega);rw[e3];rfl
theorem afK (s:ByteArray) (c:UInt8):w9 s ⟨#[c]⟩=(spl c s.data.toList).map wh:=by
 have h1:=Lib.splitB_data ⟨#[c]⟩ 0 (Lib.countB s ⟨#[c]⟩) s;have h2:Lib.countB s ⟨#[c]⟩=s.data.toList.count c:=by show Lib.count s.data.toList [c]=_;rw[Lib.count_one]
 rw[h2] at h1;have h3:Lib.splitK (⟨#[c]⟩:ByteArray).data.toList 0 (s.data.toList.count c) s.data.toList=spl c s.data.toList:=Tf c _;rw[h3] at h1;unfold w9;rw[h2,←h1,List.map_map];have:(wh∘λb:ByteArray=>b.data.toList)=id:=funext λb=>VR b;rw[this,List.map_id]
end Go.Pv.R
namespace Go.Pv.R
open List Int IntKind
theorem Xm (u:Nat):Lib.decDigits u≠[]:=by rw[Lib.decDigits];split<;>simp
end Go.Pv.R
namespace Go.Pv.R
open List Int IntKind
theorem O2 (n:Int):1<=(uc n).size:=by
 unfold uc;rw[anh];unfold Lib.itoa;have h:∀ u,1<=(Lib.decDigits u).length:=λu=>by
  cases hd:Lib.decDigits u with
  |nil=>exact absurd hd (Xm u)
  |cons _ _=>simp
 split
 ·simp
 exact h _
end Go.Pv.R
namespace Go.Pv.R
open List Int IntKind
def gS (a b:ak):Bool:=bif a.2.2.1 != b.2.2.1 then decide (a.2.2.1>b.2.2.1) else(bif decide (a.2.2.2.1>b.2.2.2.1) then true else(bif a.2.2.2.1==b.2.2.2.1 then decide (a.1<b.1) else false))
theorem Ca {N:Nat} {a b:ak} {kf:Bool->Option aa}:p4 N a b kf=kf (gS a b):=by
 unfold p4 gS;cases (a.2.2.1 != b.2.2.1) with
 |true=>rfl
 |false=>
 simp only[cond_false];cases decide (a.2.2.2.1>b.2.2.2.1) with
 |true=>rfl
 |false=>simp only[cond_false];cases (a.2.2.2.1==b.2.2.2.1)<;>rfl
theorem AU {a b:ak}:gS a b=true↔a.2.2.1>b.2.2.1∨(a.2.2.1=b.2.2.1/\(a.2.2.2.1>b.2.2.2.1∨(a.2.2.2.1=b.2.2.2.1/\a.1<b.1))):=by
 unfold gS;by_cases h1:a.2.2.1=b.2.2.1
 ·have e1:(a.2.2.1 != b.2.2.1)=false:=(by simp[h1]);rw[e1,cond_false];by_cases h2:a.2.2.2.1>b.2.2.2.1
  ·rw[decide_eq_true h2];simp[h1,h2]
  rw[decide_eq_false h2,cond_false];by_cases h3:a.2.2.2.1=b.2.2.2.1
  ·have e3:(a.2.2.2.1==b.2.2.2.1)=true:=(by simp[h3]);rw[e3,cond_true];simp[h1,h3]
  have e3:(a.2.2.2.1==b.2.2.2.1)=false:=(by simp[h3]);rw[e3,cond_false];simp[h1,h2,h3]
 have e1:(a.2.2.1 != b.2.2.1)=true:=by simp[h1]
 rw[e1,cond_true];simp[h1]
def acw (a b:Int):Int:=bif decide (a<b) then -1 else bif decide (a>b) then 1 else 0
theorem alj (a b:Int):acw a b=if a<b then -1 else if a>b then 1 else 0:=by
 unfold acw;by_cases h1:a<b
 ·rw[decide_eq_true h1,if_pos h1];rfl
 rw[decide_eq_false h1,if_neg h1];by_cases h2:a>b
 ·rw[decide_eq_true h2,if_pos h2];rfl
 rw[decide_eq_false h2,if_neg h2];rfl
theorem UA {N:Nat} {a b c:Int} {kf:Int->Option aa} (hN:3<N):Fj N [a,b,c] kf=kf (if a≠0 then a else if b≠0 then b else c):=by
 unfold Fj;rw[Qo (by rw[aq];simp) (by simpa using hN)];simp only[ud];by_cases h1:a=0
 ·subst h1;have e1:(((0:Int) != (0:Int)))=false:=by simp
  rw[e1,cond_false];by_cases h2:b=0
  ·subst h2;rw[e1,cond_false];by_cases h3:c=0
   ·subst h3;rw[e1,cond_false];simp
   have e3:(c != 0)=true:=(by simp[h3]);rw[e3,cond_true];simp
  have e2:(b != 0)=true:=(by simp[h2]);rw[e2,cond_true];simp[h2]
 have e2:(a != 0)=true:=by simp[h1]
 rw[e2,cond_true];simp[h1]
def apg (a b:ak):Int:=if acw b.2.2.1 a.2.2.1≠0 then acw b.2.2.1 a.2.2.1 else if acw b.2.2.2.1 a.2.2.2.1≠0 then acw b.2.2.2.1 a.2.2.2.1 else acw a.1 b.1
theorem Ld {N:Nat} {a b:ak} {kf:Int->Option aa} (hN:3<N):se N a b kf=kf (apg a b):=by unfold se;rw[sO,sO,sO,UA hN];rfl
theorem Z1 (a b:ak):decide (apg a b<0)=gS a b:=by
 rw[Bool.eq_iff_iff,AU,decide_eq_true_eq];unfold apg;simp only[alj];rcases Int.lt_trichotomy a.2.2.1 b.2.2.1 with h1 |h1 |h1
 ·have: ¬b.2.2.1<a.2.2.1:=(by omega);simp only[this,if_false,if_pos (show b.2.2.1>a.2.2.1 from h1)];simp;omega
 ·simp only[h1,Int.lt_irrefl,if_false,gt_iff_lt,ne_eq,not_true_eq_false];rcases Int.lt_trichotomy a.2.2.2.1 b.2.2.2.1 with h2 |h2 |h2
  ·have: ¬b.2.2.2.1<a.2.2.2.1:=(by omega);simp only[this,if_false,if_pos h2];simp;omega
  ·simp only[h2,Int.lt_irrefl,if_false,ne_eq,not_true_eq_false];by_cases h3:a.1<b.1
   ·simp[h3]
   simp only[h3,if_false];by_cases h4:b.1<a.1
   ·simp[h4]
   simp[h4]
  simp only[if_pos h2];simp[h2]
 simp only[if_pos (show b.2.2.1<a.2.2.1 from h1)];simp[h1]
def AW (x:ak) (s:List ak):Nat->Nat
 |0=>0
 |k+1=>bif gS x (s.getD k an) then AW x s k else k+1
theorem Q0 (x:ak) (s:List ak):∀ k,AW x s k<=k
 |0=>Nat.le_refl _
 |k+1=>by
  unfold AW;cases gS x (s.getD k an) with
  |true=>exact Nat.le_succ_of_le (Q0 x s k)
  |false=>exact Nat.le_refl _
def HO (s:List ak) (x:ak):List ak:=s.take (AW x s s.length)++[x]++s.drop (AW x s s.length)
theorem M8 (s:List ak) (x:ak):(HO s x).length=s.length+1:=by have:=Q0 x s s.length;simp[HO];omega
def AX (l:List ak):List ak:=l.foldl HO []
theorem Z2:∀ (l s:List ak),(l.foldl HO s).length=s.length+l.length
 |[],s=>by simp
 |x::l,s=>by simp only[List.foldl_cons,Z2 l,M8,List.length_cons];omega
theorem IQ (l:List ak):(AX l).length=l.length:=by simp[AX,Z2]
def uZ (l:List ak):List Int:=bif ar l then(AX l).map (λx:ak=>x.1) else []
theorem zj {N:Nat} {l s:List ak} {i:Nat} (hi:i<l.length) (hl:l.length<=1048700) (hs:s.length<=1048700) {kk:Int->Option aa}:∀ (k n:Nat),k<=s.length->k<n->iE N l s (i:Int) n kk (k:Int)=kk ((AW l[i] s k:Nat):Int)
 |0,n+1,_,_=>by simp only[iE];rfl
 |k+1,n+1,hk,hn=>by
  have hm:=aq;have ew:wrap .i64 (((k+1:Nat):Int) - 1)=((k:Nat):Int):=(by have:=DL (i:=k+1) (m:=s.length+1) (by omega) (by omega) (by omega);simpa using this);simp only[iE];rw[decide_eq_true (show((k+1:Nat):Int)>0 by omega),cond_true,ai hi,cond_true,ew,ai (show k<s.length by omega),cond_true,Ca,toNat_natCast,toNat_natCast,af l i hi];unfold AW;cases gS l[i] (s.getD k an) with
  |true=>simp only[cond_true];exact zj hi hl hs k n (by omega) (by omega)
  |false=>rfl
theorem Tg {α σ:Type} {body:Nat->α->σ->(σ->Option aa)->Option aa} {eB:σ->Option aa} {g:σ->α->σ} {Inv:Nat->σ->Prop} {l:List α} (hb:∀ (i:Nat) (s:σ) (next:σ->Option aa) (h:i<l.length),Inv i s->body i l[i] s next=next (g s l[i])/\Inv (i+1) (g s l[i])):∀ (r:List α) (i:Nat) (s:σ),l.drop i=r->Inv i s->dV body eB r i s=eB (r.foldl g s)
 |[],i,s,_,_=>rfl
 |x::r,i,s,hd,hs=>by have du:i<l.length:=(by have:=congrArg length hd;simp at this;omega);rw[List.drop_eq_getElem_cons du] at hd;injection hd with h1 h2;subst h1;obtain⟨e1,e2⟩:=hb i s (λs'=>dV body eB r (i+1) s') du hs;simp only[dV,List.foldl_cons];rw[e1];exact Tg hb r (i+1) _ h2 e2
theorem Z3 {l:List ak} {kf:List Int->Option aa} (hl:l.length<=1048700):dV (λ(i:Nat) (x:QT) (s:(List Int)) (next:(List Int)->Option aa)=> bif (decide ((length s+length [x.1])*1<=4398046511104)) then next (s++[x.1]) else none) (λ(s:(List Int))=>kf s) l 0 []=kf (l.map λx:ak=>x.1):=by
 rw[Tg (l:=l) (g:=λs (x:ak)=>s++[x.1]) (Inv:=λi s=>s.length=i) (λi s next h hs=>⟨by rw[decide_eq_true (by simp only[List.length_cons,List.length_nil];omega),cond_true],by simp[hs]⟩) l 0 [] rfl rfl];congr 1;have:∀ (r:List ak) (s:List Int),r.foldl (λs (x:ak)=>s++[x.1]) s=s++r.map λx:ak=>x.1:=by
  intro r;induction r with
  |nil=>intro s;simp
  |cons x r ih=>intro s;simp[ih]
 simpa using this l []
theorem O3 {N:Nat} {l:List ak} {kf:List Int->Option aa} (hl:l.length<=maxLen) (hm:∀ x∈l,x.met.length<=maxLen/\x.met.length<N) (hN:l.length+1<N):xH N l kf=kf (uZ l):=by
 have hx:=aq;unfold xH uZ;rw[K0 hl (by omega)];have ha:∀ kf,bW N l kf=kf (ar l):=λkf=>c7 hl hm (by omega);cases iT:ar l with
 |false=>
  have key:∀ (l2:List ak) (body:Nat->ak->List ak->(List ak->Option aa)->Option aa) (eB:List ak->Option aa),(∀ i x s next,body i x s next=eB s)->dV body eB l2 0 []=eB []:=by
   intro l2 body eB h;cases l2 with
   |nil=>rfl
   |cons x r=>simp only[dV];exact h _ _ _ _
  rw[key _ _ _ (λi x s next=>by rw[ha,iT];rfl)];rw[zi (by simp) (by simp;omega)];rfl
 |true=>
 have h10:l.length<=10:=by unfold ar at iT;simp only[Bool.and_eq_true,decide_eq_true_eq] at iT;exact iT.1
 rw[Tg (l:=l) (g:=HO) (Inv:=λi s=>s.length=i/\i<=l.length) (λi s next h hs=>⟨by
  obtain⟨h1,h2⟩:=hs
  have hp:=Q0 l[i] s s.length
  rw[ha,iT]
  simp only[cond_true]
  rw[zj h (by omega) (by omega) s.length N (Nat.le_refl _) (by omega)]
  have d1:(decide ((0:Int)<=(0:Int))&&decide ((0:Int)<=((AW l[i] s s.length:Nat):Int))&&decide (((AW l[i] s s.length:Nat):Int)<=(length s:Int)))=true:=by simp;omega
  have d2:(decide ((0:Int)<=((AW l[i] s s.length:Nat):Int))&&decide (((AW l[i] s s.length:Nat):Int)<=(length s:Int))&&decide ((length s:Int)<=(length s:Int)))=true:=by simp;omega
  rw[d1,cond_true,d2,cond_true,toNat_natCast,toNat_natCast,List.drop_zero,List.take_length,List.nil_append]
  have l1:(s.take (AW l[i] s s.length)).length<=s.length:=by rw[List.length_take];omega
  have l2:(s.drop (AW l[i] s s.length)).length<=s.length:=by rw[List.length_drop];omega
  rw[decide_eq_true (by simp only[List.length_nil];omega),cond_true,decide_eq_true (by simp only[List.length_cons,List.length_nil];omega),cond_true,decide_eq_true (by simp only[List.length_append,List.length_cons,List.length_nil];omega),cond_true]
  rfl,by rw[M8];omega,h⟩) l 0 [] rfl ⟨rfl,by omega⟩]
 have hlen:=IQ l;show eR (AX l) N kf [] 0=_;rw[zi (by omega) (by omega)];exact Z3 (by omega)
theorem alk {α:Type} (P Q:List α) (y x:α) (z:α):List.set (List.set (P++(y::x::Q)) (P.length+1) y) P.length x=P++(x::y::Q):=by rw[List.set_append_right _ _ (by omega),List.set_append_right _ _ (by omega)];simp
def GJ (s:List ak) (x:ak) (rest:List ak) (k:Nat):List ak:=s.take k++(x::(s.drop k++rest))
theorem aje {s rest:List ak} {x:ak} {k:Nat} (hk:k<=s.length):(GJ s x rest k).length=s.length+1+rest.length:=by simp[GJ];omega
theorem Th {N:Nat} {s rest:List ak} {x:ak} {b i:Int} {kk:List ak->Option aa} (hN:3<N) (hl:s.length+rest.length<=1048700):∀ (k n:Nat),k<=s.length->k<n-> aJ N (0:Int) b i n kk (GJ s x rest k) (k:Int)=kk (GJ s x rest (AW x s k))
 |0,n+1,_,_=>by simp only[aJ];rfl
 |k+1,n+1,hk,hn=>by
  have hm:=aq;have ew:wrap .i64 (((k+1:Nat):Int) - 1)=((k:Nat):Int):=(by have:=DL (i:=k+1) (m:=s.length+1) (by omega) (by omega) (by omega);simpa using this);have hlen:=aje (x:=x) (rest:=rest) hk;have e1:s.take (k+1)=s.take k++[s[k]]:=(by rw[List.take_succ_eq_append_getElem (by omega)]);have e2:s.drop k=s[k]::s.drop (k+1):=(by rw[List.drop_eq_getElem_cons (by omega)]);have hP:(s.take k).length=k:=(by rw[List.length_take];omega);have em:GJ s x rest (k+1)=s.take k++(s[k]::x::(s.drop (k+1)++rest)):=(by unfold GJ;rw[e1,List.append_assoc];rfl);have en:GJ s x rest k=s.take k++(x::s[k]::(s.drop (k+1)++rest)):=(by unfold GJ;rw[e2];rfl);have g1:(GJ s x rest (k+1)).getD (k+1) an=x:=(by rw[em,List.getD_eq_getElem?_getD,List.getElem?_append_right (by omega),hP];simp);have g0:(GJ s x rest (k+1)).getD k an=s[k]:=(by rw[em,List.getD_eq_getElem?_getD,List.getElem?_append_right (by omega),hP];simp);simp only[aJ];rw[decide_eq_true (show((k+1:Nat):Int)>0 by omega),cond_true,ai (show k+1<(GJ s x rest (k+1)).length by omega),cond_true,ew,ai (show k<(GJ s x rest (k+1)).length by omega),cond_true,toNat_natCast,toNat_natCast,g1,g0,Ld hN,Z1];have eb:gS x (s.getD k an)=gS x s[k]:=(by rw[af s k (by omega)]);unfold AW;rw[eb];cases gS x s[k] with
  |true=>
  simp only[cond_true,share];rw[ai (show k<_ by rw[List.length_set];omega),cond_true];have es:List.set (List.set (GJ s x rest (k+1)) (k+1) s[k]) k x=GJ s x rest k:=by rw[em,en];have:=alk (s.take k) (s.drop (k+1)++rest) s[k] x x;rw[hP] at this;exact this
  rw[es];exact Th hN hl k n (by omega) (by omega)
  |false=>rfl
theorem Ti {N:Nat} {l:List ak} {kk:List ak->Option aa} (hN:3<N) (hl:l.length<=1048700) (hlN:l.length<N):∀ (r s:List ak) (n:Nat),s.length+r.length=l.length->r.length<n-> aC N (0:Int) (l.length:Int) n kk (s++r) (s.length:Int)=kk (r.foldl HO s)
 |[],s,n+1,hs,_=>by simp only[aC];rw[decide_eq_false (show ¬(s.length:Int)<(l.length:Int) by simp at hs;omega)];simp
 |x::r,s,n+1,hs,hn=>by have hm:=aq;simp only[List.length_cons] at hs hn;simp only[aC];rw[decide_eq_true (show(s.length:Int)<(l.length:Int) by omega),cond_true];have e0:s++x::r=GJ s x r s.length:=(by simp[GJ]);rw[e0,Th hN (by omega) s.length N (Nat.le_refl _) (by omega)];have e1:GJ s x r (AW x s s.length)=HO s x++r:=(by simp[GJ,HO]);have e2:wrap .i64 ((s.length:Int)+1)=((HO s x).length:Int):=(by rw[M8];exact mK (i:=s.length) (m:=l.length) (by omega) (by omega));rw[e1,e2,Ti hN hl hlN r (HO s x) n (by rw[M8];omega) (by omega)];rfl
theorem Z4 {N:Nat} {n:Nat} {kf:Int->Option aa} (h:n<256):∃ r,rC N (n:Int) kf=kf r:=by
 unfold rC yJ;rw[decide_eq_false (by omega),cond_false];unfold sI;rw[decide_eq_false (by omega),cond_false];unfold sH;rw[decide_eq_false (by omega),cond_false];unfold sG;have e:wrap .u8 (n:Int)=(n:Int):=by simp[wrap,IntKind.bits,IntKind.signed];omega
 rw[e,ai (m:=ByteArray.size _) (by
  have:ByteArray.size aL=256:=by decide+kernel
  rw[this];exact h),cond_true]
 exact⟨_,rfl⟩
end Go.Pv.R
namespace Go.Pv.R
open List Int IntKind
theorem Le {N:Nat} {l:List ak} {kf:List ak->Option aa} (hl:l.length<=12) (hN:20<N):cz N l kf=kf (AX l):=by
 have hm:=aq;unfold cz;have ew:wrap .u64 (length l:Int)=(l.length:Int):=by simp[wrap,IntKind.bits,IntKind.signed];omega
 rw[ew];obtain⟨r,hr⟩:=Z4 (N:=N) (n:=l.length) (kf:=λ(cI:Int)=>bI N l (0:Int) (length l:Int) cI kf) (by omega);rw[hr];unfold bI;obtain⟨n,rfl⟩:∃ n,N=n+1:=⟨N - 1,by omega⟩;simp only[cp];rw[wrap64 (n:=(length l:Int) - 0) (by omega) (by omega),decide_eq_true (by omega),cond_true];unfold bZ;cases l with
 |nil=>have e:wrap .i64 ((0:Int)+1)=1:=(by decide);rw[e];simp only[aC];rfl
 |cons x r=>have e:wrap .i64 ((0:Int)+1)=(([x]:List ak).length:Int):=(by show wrap .i64 ((0:Int)+1)=((1:Nat):Int);decide);rw[e];have:=Ti (N:=n+1) (l:=x::r) (kk:=kf) (by omega) (by omega) (by omega) r [x] (n+1) (by simp;omega) (by simp at hl;omega);simp only[List.singleton_append] at this;rw[this];rfl
theorem alm {N:Nat} {l:List ak} {kf:List ak->Option aa} (hl:l.length<=1048576):ak4 N l kf=kf l:=DT (decide_eq_true (by simp only[List.length_nil];omega))
theorem xt {N:Nat} {l:List ak} {kf:List Int->Option aa} (hl:l.length<=maxLen) (hm:∀ x∈l,x.met.length<=maxLen/\x.met.length<N) (hN:l.length<N) (Oe:20<N):iR N l kf=kf (uZ l):=by
 have hx:=aq;unfold iR uZ;rw[c8 hl hm hN];cases iT:ar l with
 |false=>rfl
 |true=>have h10:l.length<=10:=(by unfold ar at iT;simp only[Bool.and_eq_true,decide_eq_true_eq] at iT;exact iT.1);have hlen:=IQ l;simp only[Bool.not_true,cond_false,cond_true];rw[alm (by omega),Le (by omega) Oe,K6 (by omega) (by omega)];exact Z3 (by omega)
def leM (a b:ak):Prop:=gS b a=false
theorem aec {a b:ak}:leM a b↔ ¬(b.2.2.1>a.2.2.1∨(b.2.2.1=a.2.2.1/\(b.2.2.2.1>a.2.2.2.1∨(b.2.2.2.1=a.2.2.2.1/\b.1<a.1)))):=by unfold leM;rw[←AU,Bool.not_eq_true]
theorem afL {a b c:ak} (h1:leM a b) (h2:leM b c):leM a c:=by rw[aec] at*;omega
theorem acx {a b:ak} (h:gS a b=true):leM a b:=by rw[aec];rw[AU] at h;omega
theorem acy {a b:ak} (h:a.1≠b.1) (hb:gS a b=false):gS b a=true:=by rw[AU];rw[←Bool.not_eq_true,AU] at hb;omega
theorem aed (x:ak) (s:List ak):∀ k i,AW x s k<=i->i<k->gS x (s.getD i an)=true
 |0,i,_,h=>by omega
 |k+1,i,h1,h2=>by
  unfold AW at h1;cases hb:gS x (s.getD k an) with
  |true=>
  rw[hb,cond_true] at h1;rcases Nat.lt_or_eq_of_le (Nat.le_of_lt_succ h2) with h3 |rfl
  ·exact aed x s k i h1 h3
  exact hb
  |false=>rw[hb,cond_false] at h1;omega
theorem aee (x:ak) (s:List ak):∀ k,0<AW x s k->leM (s.getD (AW x s k - 1) an) x
 |0,h=>by simp[AW] at h
 |k+1,h=>by
  unfold AW at h ⊢;cases hb:gS x (s.getD k an) with
  |true=>rw[hb,cond_true] at h;exact aee x s k h
  |false=>exact hb
theorem afM (s:List ak) (x:ak):(HO s x).Perm (x::s):=by unfold HO;refine(List.perm_append_comm.append_right _).trans ?_;rw[List.append_assoc,List.take_append_drop];exact List.Perm.refl _
theorem VS:∀ (l s:List ak),(l.foldl HO s).Perm (l++s)
 |[],s=>List.Perm.refl _
 |x::l,s=>by refine(VS l (HO s x)).trans ?_;refine((afM s x).append_left l).trans ?_;exact List.perm_middle
theorem O4 {l:List ak} {x:ak}:x∈AX l↔x∈l:=by have:=(VS l []).mem_iff (a:=x);rw[List.append_nil] at this;exact this
theorem Z5 {s:List ak} {x:ak} (h:s.Pairwise leM):(HO s x).Pairwise leM:=by
 have hp:=Q0 x s s.length;have Yg:=aee x s s.length;have Rq:=aed x s s.length;unfold HO;generalize AW x s s.length=p at*;have h0:=h;rw[←List.take_append_drop p s,List.pairwise_append] at h;obtain⟨h1,h2,h3⟩:=h;rw[List.append_assoc,List.pairwise_append];have hb:∀ y∈s.drop p,leM x y:=λy hy=>by obtain⟨j,hj,rfl⟩:=List.mem_iff_getElem.1 hy;rw[List.length_drop] at hj;have:=Rq (p+j) (by omega) (by omega);rw[af _ _ (by omega)] at this;rw[List.getElem_drop];exact acx this
 have ha:∀ y∈s.take p,leM y x:=λy hy=>by
  obtain⟨j,hj,rfl⟩:=List.mem_iff_getElem.1 hy;rw[List.length_take] at hj;have:=Yg (by omega);rw[af _ _ (by omega)] at this;rw[List.getElem_take];by_cases hjp:j=p - 1
  ·subst hjp;exact this
  exact afL (List.pairwise_iff_getElem.1 h0 j (p - 1) (by omega) (by omega) (by omega)) this
 refine⟨h1,?_,?_⟩
 ·rw[List.singleton_append,List.pairwise_cons];exact⟨hb,h2⟩
 intro a hA b hB;rw[List.singleton_append,List.mem_cons] at hB;rcases hB with rfl |hB
 ·exact ha a hA
 exact h3 a hA b hB
theorem Xn (l:List ak):(AX l).Pairwise leM:=by
 have:∀ (l s:List ak),s.Pairwise leM->(l.foldl HO s).Pairwise leM:=by
  intro l;induction l with
  |nil=>exact λs h=>h
  |cons x l ih=>exact λs h=>ih _ (Z5 h)
 exact this l [] List.Pairwise.nil
def jf (t:List ak) (id:Int):ak:=t.getD (au t id).toNat an
def Z6 (t:List ak) (a b:Int):cW:=bif ar t&&(decide (au t a≥0)&&(decide (au t b≥0)&&(au t a != au t b))) then (bif decide ((jf t b).2.2.2.2.1<(jf t a).2.2.2.2.1) then(b,a) else bif (jf t b).2.2.2.2.1==(jf t a).2.2.2.2.1 then(bif gS (jf t b) (jf t a) then(b,a) else(a,b)) else(a,b)) else(0,0)
theorem Qt {N:Nat} {t:List ak} {a b:Int} {kf:cW->Option aa} (hl:t.length<=maxLen) (hm:∀ x∈t,x.met.length<=maxLen/\x.met.length<N) (hN:t.length<N):zW N t a b kf=kf (Z6 t a b):=by
 unfold zW Z6;rw[c6 hl hN,c6 hl hN,c7 hl hm hN];cases ar t with
 |false=>rfl
 |true=>
  by_cases ha:au t a≥0
  rotate_left
  ·rw[decide_eq_true (show au t a<0 by omega),decide_eq_false ha];rfl
  by_cases hb:au t b≥0
  rotate_left
  ·rw[decide_eq_false (show ¬au t a<0 by omega),decide_eq_true ha,decide_eq_true (show au t b<0 by omega),decide_eq_false hb];rfl
  rw[decide_eq_true ha,decide_eq_true hb,decide_eq_false (show ¬au t a<0 by omega),decide_eq_false (show ¬au t b<0 by omega),(lI ha).1,(lI hb).1]
  simp only[cond_true,cond_false,Bool.not_true,Bool.true_and,Ca,bne]
  unfold jf
  cases (au t a==au t b)
  ·simp only[cond_false,Bool.not_false,cond_true]
   cases decide ((t.getD (au t b).toNat an).2.2.2.2.1<(t.getD (au t a).toNat an).2.2.2.2.1)
   ·simp only[cond_false]
    cases ((t.getD (au t b).toNat an).2.2.2.2.1==(t.getD (au t a).toNat an).2.2.2.2.1)
    ·rfl
    ·simp only[cond_true]
     cases gS (t.getD (au t b).toNat an) (t.getD (au t a).toNat an)<;>rfl
   ·rfl
  ·rfl
theorem zk {N:Nat} {l:List Int} {n:Int} {kf:Int->Option aa} (hl:l.length<=maxLen) (hN:l.length<N):iG N l n kf=kf (oh (λx:Int=>n==x) l):=by unfold iG;rw[we hl hN,uR (p:=λx:Int=>n==x) (kf:=λi=>kf (i:Int)) (λi x next=>rfl)];unfold oh;cases ru (λx:Int=>n==x) l 0<;>rfl
theorem jg {t:List ak} {a:Int} (ha:au t a≥0):jf t a∈t/\(jf t a).1=a:=by obtain⟨k,hk,e,h1,_⟩:=ck (p:=λx:ak=>x.1==a) (l:=t) (by unfold au at ha;omega);have e:au t a=(k:Int):=e;unfold jf;rw[e,toNat_natCast,af _ _ hk];exact⟨List.getElem_mem hk,by simpa using h1⟩
theorem afN {t:List ak} (ht:allI (qM t) t 0=true) {x:ak} (hx:x∈t) {a:Int} (e:x.1=a):jf t a=x:=by obtain⟨i,hi,rfl⟩:=List.mem_iff_getElem.1 hx;unfold jf;rw[(SX ht hi).2 e.symm,toNat_natCast,af _ _ hi]
theorem aef {t:List ak} (ht:allI (qM t) t 0=true) {a:Int} (ha:au t a≥0):∃ k:Nat,∃ hk:k<(AX t).length,oh (λx:Int=>a==x) ((AX t).map λx:ak=>x.1)=(k:Int)/\(AX t)[k]=jf t a:=by
 obtain⟨h1,h2⟩:=jg ha;have yI:a∈(AX t).map λx:ak=>x.1:=List.mem_map.2 ⟨jf t a,O4.2 h1,h2⟩;by_cases hn:oh (λx:Int=>a==x) ((AX t).map λx:ak=>x.1)<0
 ·obtain⟨j,hj,e⟩:=List.mem_iff_getElem.1 yI;have:=(IK hn).2 j hj;rw[e] at this;simp at this
 obtain⟨k,hk,e,h3,_⟩:=ck hn;rw[List.length_map] at hk;refine⟨k,hk,e,?_⟩;rw[List.getElem_map,beq_iff_eq] at h3;exact(afN ht (O4.1 (List.getElem_mem hk)) h3.symm).symm
theorem aln {t:List ak} (ht:allI (qM t) t 0=true) {a b:Int} (ha:au t a≥0) (hb:au t b≥0) (G6:a≠b):decide (oh (λx:Int=>a==x) ((AX t).map λx:ak=>x.1)<oh (λx:Int=>b==x) ((AX t).map λx:ak=>x.1))=!gS (jf t b) (jf t a):=by
 obtain⟨i,hi,e1,h1⟩:=aef ht ha;obtain⟨j,hj,e2,h2⟩:=aef ht hb;have hs:=List.pairwise_iff_getElem.1 (Xn t);rw[e1,e2];rcases Nat.lt_trichotomy i j with h |h |h
 ·have:=hs i j hi hj h;rw[h1,h2] at this;unfold leM at this;rw[this,decide_eq_true (by omega)];rfl
 ·subst h;have:jf t a=jf t b:=by rw[←h1,←h2]
  exact absurd (by rw[←(jg ha).2,←(jg hb).2,this]) G6
 have:=hs j i hj hi h;rw[h1,h2] at this;unfold leM at this;have h3:=acy (a:=jf t a) (b:=jf t b) (by rw[(jg ha).2,(jg hb).2];exact G6) this;rw[h3,decide_eq_false (by omega)];rfl
theorem Qu {N:Nat} {t:List ak} {a b:Int} {kf:cW->Option aa} (hl:t.length<=maxLen) (hm:∀ x∈t,x.met.length<=maxLen/\x.met.length<N) (hN:t.length<N) (Oe:20<N):Aa N t a b kf=kf (Z6 t a b):=by
 have hx:=aq;unfold Aa Z6;rw[cF hl hN,cF hl hN,c8 hl hm hN];cases iT:ar t with
 |false=>rfl
 |true=>
  have O5:=iT
  unfold ar at O5
  simp only[Bool.and_eq_true,decide_eq_true_eq] at O5
  obtain⟨h10,ht,_⟩:=O5
  by_cases ha:au t a≥0
  rotate_left
  ·rw[decide_eq_true (show au t a<0 by omega),decide_eq_false ha];rfl
  by_cases hb:au t b≥0
  rotate_left
  ·rw[decide_eq_false (show ¬au t a<0 by omega),decide_eq_true ha,decide_eq_true (show au t b<0 by omega),decide_eq_false hb];rfl
  rw[decide_eq_true ha,decide_eq_true hb,decide_eq_false (show ¬au t a<0 by omega),decide_eq_false (show ¬au t b<0 by omega),(lI ha).1,(lI hb).1,xt hl hm hN Oe]
  have hlen:=IQ t
  have cP:uZ t=(AX t).map λx:ak=>x.1:=by unfold uZ;rw[iT];rfl
  have Qj:(uZ t).length=t.length:=by rw[cP,List.length_map,hlen]
  rw[zk (by omega) (by omega)]
  simp only[zk (N:=N) (l:=uZ t) (by omega) (by omega)]
  by_cases G6:a=b
  ·subst G6;simp
  ·have wU:au t a≠au t b:=λe=>G6 (by rw[←(jg ha).2,←(jg hb).2];unfold jf;rw[e])
   have e1:(au t a==au t b)=false:=by simpa using wU
   simp only[cond_true,cond_false,Bool.not_true,Bool.true_and,bne,e1,Bool.not_false]
   rw[cP,aln ht ha hb G6]
   show(bif decide ((jf t a).2.2.2.2.1<(jf t b).2.2.2.2.1) then kf (a,b) else bif (jf t a).2.2.2.2.1==(jf t b).2.2.2.2.1 then(bif !gS (jf t b) (jf t a) then kf (a,b) else kf (b,a)) else kf (b,a))=_
   rcases Int.lt_trichotomy (jf t a).2.2.2.2.1 (jf t b).2.2.2.2.1 with h |h |h
   ·rw[decide_eq_true h,decide_eq_false (by omega),cond_true,cond_false]
    have:((jf t b).2.2.2.2.1==(jf t a).2.2.2.2.1)=false:=by simp;omega
    rw[this];rfl
   ·rw[h,decide_eq_false (Int.lt_irrefl _),cond_false,beq_self_eq_true,cond_true,cond_true,cond_false]
    cases gS (jf t b) (jf t a)<;>rfl
   ·rw[decide_eq_false (by omega),decide_eq_true h,cond_true,cond_false]
    have:((jf t a).2.2.2.2.1==(jf t b).2.2.2.2.1)=false:=by simp;omega
    rw[this];rfl
theorem HP {N:Nat} {a b:List Int} {kf:List Int->Option aa} (ha:a.length<=1048700) (hb:b.length<=1048700) (hN:2<N):lB N [a,b] kf=kf (a++b):=by
 have hm:=aq;unfold lB;rw[Fw (by simp;omega) (by simpa using hN)];simp only[dV];rw[wrap64 (n:=(0:Int)+(length a:Int)) (by omega) (by omega),decide_eq_false (by omega),cond_false,wrap64 (n:=(0:Int)+(length a:Int)+(length b:Int)) (by omega) (by omega),decide_eq_false (by omega),cond_false];unfold aos;have e:(List.isEmpty ([]:List Int)&&(decide ((0:Int)<=0+(length a:Int)+(length b:Int))&&decide (0+(length a:Int)+(length b:Int)<=(549755813888:Int))))=true:=by rw[decide_eq_true (by omega),decide_eq_true (by omega)];rfl
 rw[e,cond_true];show cq [a,b] (length [a,b]:Int) N kf [] 0=_;rw[DI (by simp;omega) (by simpa using hN)];simp only[dV];rw[decide_eq_true (by simp;omega),cond_true,decide_eq_true (by simp;omega),cond_true];rfl
end Go.Pv.R
namespace Go.Pv.R
open List Int IntKind
def Cb (L:List Int) (i:Nat):List Int:=List.drop 1 (List.take i L)++List.drop (i+1) L
theorem DW {L:List Int} {i:Nat} (h1:1<=i) (h:i<L.length):(Cb L i).length=L.length - 2:=by simp[Cb];omega
def F' (t:List ak) (f:List Int->Option (List cW)) (L:List Int):Nat->Nat->Option (List cW)
 |0,_=>none
 |k+1,i=>bif dQ t (L.getD 0 0) (L.getD i 0) then
   (match f (Cb L i) with
    |some r=>some (Z6 t (L.getD 0 0) (L.getD i 0)::r)
    |none=>F' t f L k (i+1))
  else F' t f L k (i+1)
def DX (t:List ak):Nat->List Int->Option (List cW)
 |0,_=>none
 |n+1,L=>bif decide (L.length=0) then some [] else F' t (DX t n) L (L.length - 1) 1
def Qv {α β:Type} (o:Option (List α)) (k:List α->Bool->β):β:=match o with |some r=>k r true |none=>k [] false
theorem O6 {t:List ak} {f:List Int->Option (List cW)} {L:List Int} (hf:∀ (L':List Int) r,f L'=some r->2*r.length=L'.length):∀ (k i:Nat) r,1<=i->i+k=L.length->F' t f L k i=some r->2*r.length=L.length
 |0,i,r,h0,h,e=>by simp[F'] at e
 |k+1,i,r,h0,h,e=>by
  unfold F' at e;cases hm:dQ t (L.getD 0 0) (L.getD i 0) with
  |false=>rw[hm,cond_false] at e;exact O6 hf k (i+1) r (by omega) (by omega) e
  |true=>
  rw[hm,cond_true] at e;cases hr:f (Cb L i) with
  |none=>rw[hr] at e;exact O6 hf k (i+1) r (by omega) (by omega) e
  |some r'=>rw[hr] at e;injection e with e;subst e;have h1:=hf _ _ hr;rw[DW h0 (by omega)] at h1;simp only[List.length_cons];omega
theorem IS {t:List ak}:∀ (n:Nat) (L:List Int) r,DX t n L=some r->2*r.length=L.length
 |0,L,r,e=>by simp[DX] at e
 |n+1,L,r,e=>by
  unfold DX at e;by_cases h:L.length=0
  ·rw[decide_eq_true h,cond_true] at e;injection e with e;subst e;simp[h]
  rw[decide_eq_false h,cond_false] at e;exact O6 (λL' r' e'=>IS n L' r' e') (L.length - 1) 1 r (by omega) (by omega) e
theorem Z7 {L:List Int} {i:Nat} (h1:1<=i) (h:i<L.length):(decide ((0:Int)<=(1:Int))&&decide ((1:Int)<=(i:Int))&&decide ((i:Int)<=(length L:Int)))=true/\(decide ((0:Int)<=((i+1:Nat):Int))&&decide (((i+1:Nat):Int)<=(length L:Int))&&decide ((length L:Int)<=(length L:Int)))=true:=by
 constructor
 ·rw[decide_eq_true (by omega),decide_eq_true (by omega),decide_eq_true (by omega)];rfl
 rw[decide_eq_true (by omega),decide_eq_true (by omega),decide_eq_true (by omega)];rfl
theorem Tj {N B:Nat} {self:List ak->List Int->(List cW->Bool->Option aa)->Option aa} {t:List ak} {f:List Int->Option (List cW)} {L:List Int} {k0:Option aa} {kf:List cW->Bool->Option aa}
  (hl:t.length<=maxLen) (hm:∀ x∈t,x.met.length<=maxLen/\x.met.length<N) (hN:t.length<N) (Oe:20<N) (hL:L.length<=1000)
  (hs:∀ (i:Nat) k,1<=i->i<L.length->self t (Cb L i) k=Qv (f (Cb L i)) k) (OF:∀ (L':List Int) r,f L'=some r->2*r.length=L'.length):∀ (k i n:Nat),1<=i->i+k=L.length->k<n->
  E7 N self t L n k0 kf (i:Int)=match F' t f L k i with |some r=>kf r true |none=>k0
 |0,i,n+1,h1,h,hn=>by
  simp only[E7]
  rw[decide_eq_false (by omega)]
  rfl
 |k+1,i,n+1,h1,h,hn=>by
  have hx:=aq
  have ih:=Tj (k0:=k0) (kf:=kf) (B:=B) hl hm hN Oe hL hs OF k (i+1) n (by omega) (by omega) (by omega)
  obtain⟨d1,d2⟩:=Z7 (L:=L) h1 (by omega)
  have ew:wrap .i64 ((i:Int)+1)=((i+1:Nat):Int):=mK (m:=L.length) (i:=i) (by omega) (by omega)
  simp only[E7]
  rw[decide_eq_true (by omega),cond_true,show aD (0:Int) (length L)=true from ai (i:=0) (show 0<L.length by omega),cond_true,ai (show i<L.length by omega),cond_true,F7 hl hm hN]
  unfold F'
  show(bif !dQ t (L.getD 0 0) (L.getD i 0) then _ else _)=_
  cases dQ t (L.getD 0 0) (L.getD i 0) with
  |false=>
   simp only[Bool.not_false,cond_true,cond_false]
   rw[ew]
   exact ih
  |true=>
   simp only[Bool.not_true,cond_true,cond_false]
   rw[d1,cond_true,ew,d2,cond_true]
   have e3:(([]:List Int)++List.drop (toNat (1:Int)) (List.take (toNat (i:Int)) L))++List.drop (toNat ((i+1:Nat):Int)) (List.take (toNat (length L:Int)) L)=Cb L i:=by
    rw[toNat_natCast,toNat_natCast,toNat_natCast,List.take_length];rfl
   rw[e3]
   rw[decide_eq_true (by simp;omega),cond_true,decide_eq_true (by simp;omega),cond_true,hs i _ h1 (by omega)]
   unfold Qv
   cases hr:f (Cb L i) with
   |none=>exact ih
   |some r=>
    have h2:=OF _ _ hr
    rw[DW h1 (by omega)] at h2
    simp only[cond_true]
    rw[Qt hl hm hN,decide_eq_true (by simp;omega),cond_true]
    rfl
theorem aeg {t:List ak} {B:Nat} (hl:t.length<=maxLen) (hm:∀ x∈t,x.met.length<=maxLen/\x.met.length<B) (hB:t.length<B) (Oe:20<B):∀ (n N:Nat) (L:List Int) (kf:List cW->Bool->Option aa),L.length<=n->L.length<B->L.length<=1000->B+n+1<=N->abR N t L kf=Qv (DX t (n+1) L) kf
 |n,0,L,kf,_,_,_,h=>by omega
 |n,N+1,L,kf,h1,h2,h3,h=>by
  show abQ (abR N) N t L kf=_;unfold abQ DX;by_cases h0:L.length=0
  ·rw[decide_eq_true h0,cond_true];have:((length L:Int)==0)=true:=(by simp[h0]);rw[this];rfl
  rw[decide_eq_false h0,cond_false];have:((length L:Int)==0)=false:=(by simp;intro e;exact h0 (by simp[e]));rw[this,cond_false];obtain⟨n,rfl⟩:∃ m,n=m+1:=⟨n - 1,by omega⟩;have:=Tj (N:=N) (B:=B) (self:=abR N) (t:=t) (f:=DX t (n+1)) (L:=L) (k0:=kf [] false) (kf:=kf) hl (λx hx=>⟨(hm x hx).1,by have:=(hm x hx).2;omega⟩) (by omega) (by omega) h3 (λi k hi1 yB=>by
   have hr:=DW hi1 yB
   exact aeg hl hm hB Oe n N (Cb L i) k (by omega) (by omega) (by omega) (by omega)) (λL' r e=>IS (n+1) L' r e) (L.length - 1) 1 N (by omega) (by omega) (by omega)
  refine Eq.trans this ?_;unfold Qv;cases F' t (DX t (n+1)) L (L.length - 1) 1<;>rfl
theorem Tk {N B:Nat} {self:List ak->List Int->(List cW->Bool->Option aa)->Option aa} {t:List ak} {f:List Int->Option (List cW)} {L:List Int} {k0:Option aa} {kf:List cW->Bool->Option aa}
  (hl:t.length<=maxLen) (hm:∀ x∈t,x.met.length<=maxLen/\x.met.length<N) (hN:t.length<N) (Oe:20<N) (hL:L.length<=1000)
  (hs:∀ (i:Nat) k,1<=i->i<L.length->self t (Cb L i) k=Qv (f (Cb L i)) k) (OF:∀ (L':List Int) r,f L'=some r->2*r.length=L'.length):∀ (k i n:Nat),1<=i->i+k=L.length->k<n->
  Fm N self t L n k0 kf (i:Int)=match F' t f L k i with |some r=>kf r true |none=>k0
 |0,i,n+1,h1,h,hn=>by
  simp only[Fm]
  rw[decide_eq_false (by omega)]
  rfl
 |k+1,i,n+1,h1,h,hn=>by
  have hx:=aq
  have ih:=Tk (k0:=k0) (kf:=kf) (B:=B) hl hm hN Oe hL hs OF k (i+1) n (by omega) (by omega) (by omega)
  obtain⟨d1,d2⟩:=Z7 (L:=L) h1 (by omega)
  have ew:wrap .i64 ((i:Int)+1)=((i+1:Nat):Int):=mK (m:=L.length) (i:=i) (by omega) (by omega)
  simp only[Fm]
  rw[decide_eq_true (by omega),cond_true,show aD (0:Int) (length L)=true from ai (i:=0) (show 0<L.length by omega),cond_true,ai (show i<L.length by omega),cond_true,F8 hl hm hN]
  unfold F'
  show(bif !dQ t (L.getD 0 0) (L.getD i 0) then _ else _)=_
  cases dQ t (L.getD 0 0) (L.getD i 0) with
  |false=>
   simp only[Bool.not_false,cond_true,cond_false]
   rw[ew]
   exact ih
  |true=>
   simp only[Bool.not_true,cond_true,cond_false]
   rw[d1,cond_true,ew,d2,cond_true]
   have e3:List.drop (toNat (1:Int)) (List.take (toNat (i:Int)) L)++List.drop (toNat ((i+1:Nat):Int)) (List.take (toNat (length L:Int)) L)=Cb L i:=by
    rw[toNat_natCast,toNat_natCast,toNat_natCast,List.take_length];rfl
   rw[HP (by simp;omega) (by simp;omega) (by omega),e3,hs i _ h1 (by omega)]
   unfold Qv
   cases hr:f (Cb L i) with
   |none=>exact ih
   |some r=>
    have h2:=OF _ _ hr
    rw[DW h1 (by omega)] at h2
    simp only[cond_true]
    rw[Qu hl hm hN Oe,decide_eq_true (by simp;omega),cond_true]
    rfl
theorem aeh {t:List ak} {B:Nat} (hl:t.length<=maxLen) (hm:∀ x∈t,x.met.length<=maxLen/\x.met.length<B) (hB:t.length<B) (Oe:20<B):∀ (n N:Nat) (L:List Int) (kf:List cW->Bool->Option aa),L.length<=n->L.length<B->L.length<=1000->B+n+1<=N->ab9 N t L kf=Qv (DX t (n+1) L) kf
 |n,0,L,kf,_,_,_,h=>by omega
 |n,N+1,L,kf,h1,h2,h3,h=>by
  show ab8 (ab9 N) N t L kf=_;unfold ab8 DX;by_cases h0:L.length=0
  ·rw[decide_eq_true h0,cond_true];have:((length L:Int)==0)=true:=(by simp[h0]);rw[this];rfl
  rw[decide_eq_false h0,cond_false];have:((length L:Int)==0)=false:=(by simp;intro e;exact h0 (by simp[e]));rw[this,cond_false];obtain⟨n,rfl⟩:∃ m,n=m+1:=⟨n - 1,by omega⟩;have:=Tk (N:=N) (B:=B) (self:=ab9 N) (t:=t) (f:=DX t (n+1)) (L:=L) (k0:=kf [] false) (kf:=kf) hl (λx hx=>⟨(hm x hx).1,by have:=(hm x hx).2;omega⟩) (by omega) (by omega) h3 (λi k hi1 yB=>by
   have hr:=DW hi1 yB
   exact aeh hl hm hB Oe n N (Cb L i) k (by omega) (by omega) (by omega) (by omega)) (λL' r e=>IS (n+1) L' r e) (L.length - 1) 1 N (by omega) (by omega) (by omega)
  refine Eq.trans this ?_;unfold Qv;cases F' t (DX t (n+1)) L (L.length - 1) 1<;>rfl
def yQ (t:List ak):Option (List cW):=bif ar t then bif decide (t.length%2=1) then none else DX t (t.length+1) (uZ t) else none
theorem FF {t:List ak} (h:ar t=true):(uZ t).length=t.length:=by unfold uZ;rw[h,cond_true,List.length_map,IQ]
theorem Tl {t:List ak} {r:List cW} (h:yQ t=some r):2*r.length=t.length/\t.length<=10:=by
 unfold yQ at h;cases iT:ar t with
 |false=>rw[iT] at h;simp at h
 |true=>
 have O5:=iT;unfold ar at O5;simp only[Bool.and_eq_true,decide_eq_true_eq] at O5;rw[iT,cond_true] at h;by_cases ho:t.length%2=1
 ·rw[decide_eq_true ho] at h;simp at h
 rw[decide_eq_false ho,cond_false] at h;have:=IS _ _ _ h;rw[FF iT] at this;exact⟨this,O5.1⟩
theorem ani (n:Nat):(Int.tmod (n:Int) 2==1)=decide (n%2=1):=by
 have:Int.tmod (n:Int) 2=((n%2:Nat):Int):=by rw[Int.tmod_eq_emod_of_nonneg (by omega)];omega
 rw[this];by_cases h:n%2=1
 ·rw[h];rfl
 rw[decide_eq_false h];simp;omega
theorem M9 {N:Nat} {t:List ak} {kf:List cW->Bool->Option aa} (hl:t.length<=maxLen) (hm:∀ x∈t,x.met.length<=maxLen/\x.met.length+20<N) (hN:t.length+20<N) (h60:60<N):uq N t kf=Qv (yQ t) kf:=by
 have hx:=aq;unfold uq yQ;rw[c7 hl (λx hx=>⟨(hm x hx).1,by have:=(hm x hx).2;omega⟩) (by omega)];cases iT:ar t with
 |false=>rfl
 |true=>
 have O5:=iT;unfold ar at O5;simp only[Bool.and_eq_true,decide_eq_true_eq] at O5;rw[ani];by_cases ho:t.length%2=1
 ·rw[decide_eq_true ho];rfl
 rw[decide_eq_false ho];simp only[Bool.not_true,cond_true,cond_false];rw[O3 hl (λx hx=>⟨(hm x hx).1,by have:=(hm x hx).2;omega⟩) (by omega)];have hs:=FF iT;exact aeg (B:=N - 15) hl (λx hx=>⟨(hm x hx).1,by have:=(hm x hx).2;omega⟩) (by omega) (by omega) t.length N _ _ (by omega) (by omega) (by omega) (by omega)
theorem M' {N:Nat} {t:List ak} {kf:List cW->Bool->Option aa} (hl:t.length<=maxLen) (hm:∀ x∈t,x.met.length<=maxLen/\x.met.length+20<N) (hN:t.length+20<N) (h60:60<N):uE N t kf=Qv (yQ t) kf:=by
 have hx:=aq;unfold uE yQ;rw[c8 hl (λx hx=>⟨(hm x hx).1,by have:=(hm x hx).2;omega⟩) (by omega)];cases iT:ar t with
 |false=>rfl
 |true=>
 have O5:=iT;unfold ar at O5;simp only[Bool.and_eq_true,decide_eq_true_eq] at O5;rw[ani];by_cases ho:t.length%2=1
 ·rw[decide_eq_true ho];rfl
 rw[decide_eq_false ho];simp only[Bool.not_true,cond_true,cond_false];rw[xt hl (λx hx=>⟨(hm x hx).1,by have:=(hm x hx).2;omega⟩) (by omega) (by omega)];have hs:=FF iT;exact aeh (B:=N - 15) hl (λx hx=>⟨(hm x hx).1,by have:=(hm x hx).2;omega⟩) (by omega) (by omega) t.length N _ _ (by omega) (by omega) (by omega) (by omega)
end Go.Pv.R
namespace Go.Pv.R
open List Int IntKind
def HQ (t:List ak) (js:List bc) (p:cW) (used:List Int) (f:List Int->Option (List Int)):Nat->Nat->Option (List Int)
 |0,_=>none
 |k+1,i=>bif Ab used (js.getD i dY).1 then HQ t js p used f k (i+1) else
   bif iM t (js.getD i dY) p then
   (match f (used++[(js.getD i dY).1]) with
    |some r=>some ((js.getD i dY).1::r)
    |none=>HQ t js p used f k (i+1))
  else HQ t js p used f k (i+1)
def Ga (t:List ak) (js:List bc):List cW->List Int->Option (List Int)
 |[],_=>some []
 |p::ps,used=>HQ t js p used (Ga t js ps) js.length 0
def aph {α β:Type} (o:Option (List α)) (k0:β) (k:List α->Bool->β):β:=match o with |some r=>k r true |none=>k0
theorem aei {α β:Type} (o:Option (List α)) (k:List α->Bool->β):aph o (k [] false) k=Qv o k:=by cases o<;>rfl
def acz (js:List bc) (n:Nat) (used r:List Int):Prop:=r.length=n/\r.Nodup/\∀ x∈r,x∈js.map (λx:bc=>x.1)/\x∉used
theorem IT {t:List ak} {js:List bc} {p:cW} {used:List Int} {f:List Int->Option (List Int)} {n:Nat} (hf:∀ u r,f u=some r->acz js n u r):∀ (k i:Nat) r,i+k=js.length->HQ t js p used f k i=some r->acz js (n+1) used r
 |0,i,r,h,e=>by simp[HQ] at e
 |k+1,i,r,h,e=>by
  unfold HQ at e;cases hu:Ab used (js.getD i dY).1 with
  |true=>rw[hu,cond_true] at e;exact IT hf k (i+1) r (by omega) e
  |false=>
  rw[hu,cond_false] at e;cases hm:iM t (js.getD i dY) p with
  |false=>rw[hm,cond_false] at e;exact IT hf k (i+1) r (by omega) e
  |true=>
  rw[hm,cond_true] at e;cases hr:f (used++[(js.getD i dY).1]) with
  |none=>rw[hr] at e;exact IT hf k (i+1) r (by omega) e
  |some r'=>
  rw[hr] at e;injection e with e;subst e;obtain⟨h1,h2,h3⟩:=hf _ _ hr;have gl:(js.getD i dY).1∈js.map (λx:bc=>x.1):=(by rw[af _ _ (show i<js.length by omega)];exact List.mem_map.2 ⟨_,List.getElem_mem _,rfl⟩);have hnu:(js.getD i dY).1∉used:=λhc=>(by have:=yc.2 hc;rw[hu] at this;cases this);refine⟨by simp[h1],List.nodup_cons.2 ⟨λhc=>?_,h2⟩,λx hx=>?_⟩
  ·have:=(h3 _ hc).2;simp at this
  rcases List.mem_cons.1 hx with rfl |hx
  ·exact⟨gl,hnu⟩
  obtain⟨q1,q2⟩:=h3 x hx;refine⟨q1,λhc=>q2 ?_⟩;simp[hc]
theorem HR {t:List ak} {js:List bc}:∀ (ps:List cW) (used r:List Int),Ga t js ps used=some r->acz js ps.length used r
 |[],used,r,e=>by unfold Ga at e;injection e with e;subst e;exact⟨rfl,List.nodup_nil,λx hx=>by simp at hx⟩
 |p::ps,used,r,e=>IT (λu r e=>HR ps u r e) js.length 0 r (by omega) e
theorem DY:∀ (r L:List Int),r.Nodup->(∀ x∈r,x∈L)->r.length<=L.length
 |[],L,_,_=>by simp
 |x::r,L,hn,h=>by rw[List.nodup_cons] at hn;have hx:=h x (by simp);have h1:=List.length_erase_of_mem hx;have h2:=List.length_pos_of_mem hx;have:=DY r (L.erase x) hn.2 λy hy=>(by have wU:y≠x:=λe=>hn.1 (e▸hy);exact(List.mem_erase_of_ne wU).2 (h y (by simp[hy])));simp only[List.length_cons];omega
theorem ajf {t:List ak} {js:List bc} {ps:List cW} {used r:List Int} (h:Ga t js ps used=some r):ps.length<=js.length:=by obtain⟨h1,h2,h3⟩:=HR ps used r h;have:=DY r (js.map λx:bc=>x.1) h2 λx hx=>(h3 x hx).1;rw[List.length_map] at this;omega
theorem aej {p:cW} {ps:List cW}:(decide ((0:Int)<=(1:Int))&&decide ((1:Int)<=(length (p::ps):Int))&&decide ((length (p::ps):Int)<=(length (p::ps):Int)))=true/\List.drop (toNat (1:Int)) (List.take (toNat (length (p::ps):Int)) (p::ps))=ps:=by
 constructor
 ·rw[decide_eq_true (by omega),decide_eq_true (by simp only[List.length_cons];omega),decide_eq_true (by omega)];rfl
 rw[toNat_natCast,List.take_length];rfl
theorem Tm {N:Nat} {self:List ak->List bc->List cW->List Int->(List Int->Bool->Option aa)->Option aa} {t:List ak} {js:List bc} {p:cW} {ps:List cW} {used:List Int} {f:List Int->Option (List Int)} {k0:Option aa} {kf:List Int->Bool->Option aa} (hl:t.length<=maxLen) (hN:t.length<N) (Oe:20<N) (hj:js.length<=1048700) (Na:∀ x∈js,x.2.2.length<=maxLen/\x.2.2.length<N) (hu:used.length<=1000) (huN:used.length<N) (hs:∀ (x:Int) k,self t js ps (used++[x]) k=Qv (f (used++[x])) k) (OF:∀ (u:List Int) r,f u=some r->r.length<=1000):∀ (k i n:Nat),i+k=js.length->k<n-> BW N self t js (p::ps) used n k0 kf (i:Int)=aph (HQ t js p used f k i) k0 kf
 |0,i,n+1,h,hn=>by simp only[BW];rw[decide_eq_false (by omega)];rfl
 |k+1,i,n+1,h,hn=>by
  have hx:=aq;have ih:=Tm (k0:=k0) (kf:=kf) (p:=p) hl hN Oe hj Na hu huN hs OF k (i+1) n (by omega) (by omega);have ew:wrap .i64 ((i:Int)+1)=((i+1:Nat):Int):=mK (m:=js.length) (i:=i) (by omega) (by omega);obtain⟨d1,d2⟩:=aej (p:=p) (ps:=ps);have hi:i<js.length:=(by omega);obtain⟨m1,m2⟩:=Na js[i] (List.getElem_mem hi);simp only[BW];rw[decide_eq_true (by omega),cond_true,ai hi,cond_true,l6 (by omega) huN];unfold HQ;have eg:js.getD (toNat (i:Int)) dY=js[i]:=af _ _ hi _;have eg2:js.getD i dY=js[i]:=af _ _ hi _;rw[eg,eg2];cases Ab used js[i].1 with
  |true=>simp only[cond_true];rw[ew];exact ih
  |false=>
  simp only[cond_false];rw[cond_true,show aD (0:Int) (length (p::ps))=true from ai (i:=0) (by simp),cond_true,DP hl hN m1 m2];show(bif !iM t js[i] p then _ else _)=_;cases iM t js[i] p with
  |false=>simp only[Bool.not_false,cond_true,cond_false];rw[ew];exact ih
  |true=>
  simp only[Bool.not_true,cond_true,cond_false];rw[d1,cond_true,d2,decide_eq_true (by simp;omega),cond_true,decide_eq_true (by simp;omega),cond_true,List.nil_append,hs,ew];unfold Qv;cases hr:f (used++[js[i].1]) with
  |none=>exact ih
  |some r=>have:=OF _ _ hr;simp only[cond_true];rw[decide_eq_true (by simp;omega),cond_true];rfl
theorem Tn {N:Nat} {self:List ak->List bc->List cW->List Int->(List Int->Bool->Option aa)->Option aa} {t:List ak} {js:List bc} {p:cW} {ps:List cW} {used:List Int} {f:List Int->Option (List Int)} {k0:Option aa} {kf:List Int->Bool->Option aa} (hl:t.length<=maxLen) (hN:t.length<N) (Oe:20<N) (hj:js.length<=1048700) (Na:∀ x∈js,x.2.2.length<=maxLen/\x.2.2.length<N) (hu:used.length<=1000) (huN:used.length<N) (hs:∀ (x:Int) k,self t js ps (used++[x]) k=Qv (f (used++[x])) k) (OF:∀ (u:List Int) r,f u=some r->r.length<=1000):∀ (k i n:Nat),i+k=js.length->k<n-> B0 N self t js (p::ps) used js (js.length:Int) n k0 kf (i:Int)=aph (HQ t js p used f k i) k0 kf
 |0,i,n+1,h,hn=>by simp only[B0];rw[decide_eq_false (by omega)];rfl
 |k+1,i,n+1,h,hn=>by
  have hx:=aq;have ih:=Tn (k0:=k0) (kf:=kf) (p:=p) hl hN Oe hj Na hu huN hs OF k (i+1) n (by omega) (by omega);have ew:wrap .i64 ((i:Int)+1)=((i+1:Nat):Int):=mK (m:=js.length) (i:=i) (by omega) (by omega);obtain⟨d1,d2⟩:=aej (p:=p) (ps:=ps);have hi:i<js.length:=(by omega);obtain⟨m1,m2⟩:=Na js[i] (List.getElem_mem hi);simp only[B0];rw[decide_eq_true (by omega),cond_true,ai hi,cond_true,kd (by omega) huN];unfold HQ;have eg:js.getD (toNat (i:Int)) dY=js[i]:=af _ _ hi _;have eg2:js.getD i dY=js[i]:=af _ _ hi _;rw[eg,eg2];cases Ab used js[i].1 with
  |true=>simp only[cond_true];rw[ew];exact ih
  |false=>
  simp only[cond_false];rw[show aD (0:Int) (length (p::ps))=true from ai (i:=0) (by simp),cond_true,xm hl hN m1 m2 (by omega)];show(bif !iM t js[i] p then _ else _)=_;cases iM t js[i] p with
  |false=>simp only[Bool.not_false,cond_true,cond_false];rw[ew];exact ih
  |true=>
  simp only[Bool.not_true,cond_true,cond_false];rw[d1,cond_true,d2,Xk (by omega),decide_eq_true (by simp;omega),cond_true,hs,ew];unfold Qv;cases hr:f (used++[js[i].1]) with
  |none=>exact ih
  |some r=>have:=OF _ _ hr;simp only[cond_true];rw[decide_eq_true (by simp;omega),cond_true];rfl
theorem aek {t:List ak} {js:List bc} {B:Nat} (hl:t.length<=maxLen) (hN:t.length<B) (Oe:20<B) (hj:js.length<=1048700) (hjN:js.length<B) (Na:∀ x∈js,x.2.2.length<=maxLen/\x.2.2.length<B):∀ (ps:List cW) (N:Nat) (used:List Int) (kf:List Int->Bool->Option aa),used.length+ps.length<=900->used.length+ps.length<B->B+ps.length+1<=N->abT N t js ps used kf=Qv (Ga t js ps used) kf
 |ps,0,used,kf,_,_,h=>by omega
 |[],N+1,used,kf,_,_,_=>rfl
 |p::ps,N+1,used,kf,h1,h2,h=>by
  simp only[List.length_cons] at h h1 h2;show abS (abT N) N t js (p::ps) used kf=_;unfold abS Ga;have e:((length (p::ps):Int)==0)=false:=by simp;omega
  rw[e,cond_false,←aei];exact Tm (N:=N) (self:=abT N) (f:=Ga t js ps) hl (by omega) (by omega) hj (λx hx=>⟨(Na x hx).1,by have:=(Na x hx).2;omega⟩) (by omega) (by omega) (λx k=>aek hl hN Oe hj hjN Na ps N _ k (by simp;omega) (by simp;omega) (by omega)) (λu r e=>by have:=(HR ps u r e).1;omega) js.length 0 N (by omega) (by omega)
theorem ael {t:List ak} {js:List bc} {B:Nat} (hl:t.length<=maxLen) (hN:t.length<B) (Oe:20<B) (hj:js.length<=1048700) (hjN:js.length<B) (Na:∀ x∈js,x.2.2.length<=maxLen/\x.2.2.length<B):∀ (ps:List cW) (N:Nat) (used:List Int) (kf:List Int->Bool->Option aa),used.length+ps.length<=900->used.length+ps.length<B->B+ps.length+1<=N->aca N t js ps used kf=Qv (Ga t js ps used) kf
 |ps,0,used,kf,_,_,h=>by omega
 |[],N+1,used,kf,_,_,_=>rfl
 |p::ps,N+1,used,kf,h1,h2,h=>by
  simp only[List.length_cons] at h h1 h2;show ab' (aca N) N t js (p::ps) used kf=_;unfold ab' Ga;have e:((length (p::ps):Int)==0)=false:=by simp;omega
  rw[e,cond_false,←aei];exact Tn (N:=N) (self:=aca N) (f:=Ga t js ps) hl (by omega) (by omega) hj (λx hx=>⟨(Na x hx).1,by have:=(Na x hx).2;omega⟩) (by omega) (by omega) (λx k=>ael hl hN Oe hj hjN Na ps N _ k (by simp;omega) (by simp;omega) (by omega)) (λu r e=>by have:=(HR ps u r e).1;omega) js.length 0 N (by omega) (by omega)
def u5 (t:List ak) (js:List bc) (ps:List cW):Option (List Int):=bif cf js&&ar t then Ga t js ps [] else none
theorem AY {N:Nat} {t:List ak} {js:List bc} {ps:List cW} {kf:List Int->Bool->Option aa} (hl:t.length<=maxLen) (hm:∀ x∈t,x.met.length<=maxLen/\x.met.length+20<N) (hN:t.length+20<N) (h60:60<N) (hj:js.length<=1048700) (hjN:js.length+20<N) (Na:∀ x∈js,x.2.2.length<=maxLen/\x.2.2.length+20<N) (hp:ps.length<=10):rY N t js ps kf=Qv (u5 t js ps) kf:=by
 have hx:=aq;unfold rY u5;rw[uS (by omega) (λx hx=>⟨(Na x hx).1,by have:=(Na x hx).2;omega⟩) (by omega)];cases cf js with
 |false=>rfl
 |true=>
 simp only[Bool.not_true,cond_false,Bool.true_and];rw[c7 hl (λx hx=>⟨(hm x hx).1,by have:=(hm x hx).2;omega⟩) (by omega)];cases ar t with
 |false=>rfl
 |true=>exact aek (B:=N - 15) hl (by omega) (by omega) hj (by omega) (λx hx=>⟨(Na x hx).1,by have:=(Na x hx).2;omega⟩) ps N [] kf (by simp;omega) (by simp;omega) (by omega)
theorem AZ {N:Nat} {t:List ak} {js:List bc} {ps:List cW} {kf:List Int->Bool->Option aa} (hl:t.length<=maxLen) (hm:∀ x∈t,x.met.length<=maxLen/\x.met.length+20<N) (hN:t.length+20<N) (h60:60<N) (hj:js.length<=1048700) (hjN:js.length+20<N) (Na:∀ x∈js,x.2.2.length<=maxLen/\x.2.2.length+20<N) (hp:ps.length<=10):sh N t js ps kf=Qv (u5 t js ps) kf:=by
 have hx:=aq;unfold sh u5;rw[uT (by omega) (λx hx=>⟨(Na x hx).1,by have:=(Na x hx).2;omega⟩) (by omega)];cases cf js with
 |false=>rfl
 |true=>
 simp only[Bool.not_true,cond_false,Bool.true_and];rw[c8 hl (λx hx=>⟨(hm x hx).1,by have:=(hm x hx).2;omega⟩) (by omega)];cases ar t with
 |false=>rfl
 |true=>
 simp only[Bool.not_true,cond_false,cond_true];by_cases hgt:ps.length>js.length
 ·rw[decide_eq_true (by omega),cond_true];cases hs:Ga t js ps [] with
  |none=>rfl
  |some r=>have:=ajf hs;omega
 rw[decide_eq_false (by omega),cond_false];exact ael (B:=N - 15) hl (by omega) (by omega) hj (by omega) (λx hx=>⟨(Na x hx).1,by have:=(Na x hx).2;omega⟩) ps N [] kf (by simp;omega) (by simp;omega) (by omega)
def Qa (c:ax) (ps:List cW) (ss:List Int):ax:=(c.1,(c.2.1,(ps,(ss,(List.replicate ps.length ((0:Int),((0:Int),(0:Int))),c.2.2.2.2.2)))))
def xO (c:ax):Bool:=decide (c.2.2.1.length=0)&&decide (0<c.1.length)
def kx (c:ax):ax×Bool:=match yQ c.1 with
 |none=>(c,false)
 |some ps=>match u5 c.1 c.2.1 ps with
  |none=>(c,false)
  |some ss=>bif xO c then(qN c (Qa c ps ss) 3 0,oo c (Qa c ps ss) 3 0) else(c,false)
theorem Z8 {c:ax} {N:Nat} {ps:List cW} {ss:List Int} (h:bo c N) (hp:ps.length<=10) (hs:ss.length<=10) (hN:60<N):bo (Qa c ps ss) N:=
 ⟨h.tl,h.tm,h.tN,h.jl,h.jm,h.jN,by show ps.length<=_;omega,by show 2*ps.length<_;omega,by show ss.length<=_;omega,by show ss.length<_;omega,by show(List.replicate _ _).length<=_;rw[List.length_replicate];omega,by show(List.replicate _ _).length<_;rw[List.length_replicate];omega,h.ml,h.mN,h.n8,h.tb,h.tmb,h.jb,h.jmb⟩
theorem To {t:List ak} {js:List bc} {ps:List cW} {ss:List Int} (h:u5 t js ps=some ss):ss.length=ps.length:=by
 unfold u5 at h;cases hb:(cf js&&ar t) with
 |false=>rw[hb] at h;simp at h
 |true=>rw[hb,cond_true] at h;exact(HR _ _ _ h).1
theorem O7 {N:Nat} {c:ax} {kf:ax->Bool->Option aa} (h:bo c N) (h':bo c (N - 40)) (hN:200<N) (hl:c.2.2.2.2.2.1.length+1<N):oT N c kf=kf (kx c).1 (kx c).2:=by
 have hx:=aq;have t1:=h'.tN;have t2:=h'.jN;have t3:=h'.tm;have t4:=h'.jm;have hj:=h.jb;have htm:∀ x:ak,x∈c.1->x.met.length<=maxLen/\x.met.length+20<N:=λx hx=>⟨(t3 x hx).1,by have:=(t3 x hx).2;omega⟩;have Na:∀ x∈c.2.1,x.2.2.length<=maxLen/\x.2.2.length+20<N:=λx hx=>⟨(t4 x hx).1,by have:=(t4 x hx).2;omega⟩;have Hc:∀ out eh rE,ft N c out false eh rE kf=kf c false:=λout eh rE=>(lg (out:=out) h (λe=>by cases e) hN hl);unfold oT kx;rw[lf h,M9 h.tl htm (by omega) (by omega)];unfold Qv;cases hr:yQ c.1 with
 |none=>simp only[];rw[AY h.tl htm (by omega) (by omega) hj (by omega) Na (by simp)];unfold Qv;cases u5 c.1 c.2.1 []<;>exact Hc _ _ _
 |some ps=>
 obtain⟨l1,l2⟩:=Tl hr;simp only[];rw[AY h.tl htm (by omega) (by omega) hj (by omega) Na (by omega)];unfold Qv;have e0:(decide ((length ps:Int)=(length ps:Int))&&decide ((0:Int)<=(length ps:Int))&&decide ((length ps:Int)<=1099511627776))=true:=by rw[decide_eq_true rfl,decide_eq_true (by omega),decide_eq_true (by omega)];rfl
 have e0t:(decide True&&decide ((0:Int)<=(length ps:Int))&&decide ((length ps:Int)<=1099511627776))=true:=by rw[decide_eq_true trivial,decide_eq_true (by omega),decide_eq_true (by omega)];rfl
 cases hs:u5 c.1 c.2.1 ps with
 |none=>
 simp only[];first |rw[e0] |rw[e0t]
 exact Hc _ _ _
 |some ss=>
 have l3:=To hs;have hd:=λok=>lg (out:=Qa c ps ss) (ok:=ok) (eh:=3) (rE:=0) (kf:=kf) h (λ_=>Z8 h (by omega) (by omega) (by omega)) hN hl;simp only[];first |rw[e0] |rw[e0t]
 simp only[cond_true];unfold kI xO;by_cases dp:c.2.2.1.length=0
 ·rw[decide_eq_false (show ¬(length c.2.2.1:Int)>0 by omega),decide_eq_true dp];simp only[Bool.not_false,cond_true,Bool.true_and];have e2:decide ((length c.1:Int)>(0:Int))=decide (0<c.1.length):=decide_eq_decide.2 (by omega);rw[e2];refine(hd (decide (0<c.1.length))).trans ?_;cases decide (0<c.1.length)<;>rfl
 rw[decide_eq_true (show(length c.2.2.1:Int)>0 by omega),decide_eq_false dp];exact Hc _ _ _
theorem O8 {N:Nat} {c:ax} {kf:ax->Bool->Option aa} (h:bo c N) (h':bo c (N - 40)) (hN:200<N) (hl:c.2.2.2.2.2.1.length+1<N):oV N c kf=kf (kx c).1 (kx c).2:=by
 have hx:=aq;have t1:=h'.tN;have t2:=h'.jN;have t3:=h'.tm;have t4:=h'.jm;have hj:=h.jb;have htm:∀ x:ak,x∈c.1->x.met.length<=maxLen/\x.met.length+20<N:=λx hx=>⟨(t3 x hx).1,by have:=(t3 x hx).2;omega⟩;have Na:∀ x∈c.2.1,x.2.2.length<=maxLen/\x.2.2.length+20<N:=λx hx=>⟨(t4 x hx).1,by have:=(t4 x hx).2;omega⟩;have Hc:bY c=false->kx c=(c,false):=λhc=>by
  have hd:∀ out eh rE,oo c out eh rE=false:=λout eh rE=>(by unfold oo;rw[hc];simp);have hd2:∀ out eh rE,qN c out eh rE=c:=λout eh rE=>(by unfold qN;rw[hd];rfl);unfold kx;cases yQ c.1 with
  |none=>rfl
  |some ps=>
  simp only[];cases u5 c.1 c.2.1 ps with
  |none=>rfl
  |some ss=>simp only[hd,hd2];cases xO c<;>rfl
 have ass:xO c=false->kx c=(c,false):=λhc=>by
  unfold kx;cases yQ c.1 with
  |none=>rfl
  |some ps=>
  simp only[];cases u5 c.1 c.2.1 ps with
  |none=>rfl
  |some ss=>simp only[hc];rfl
 unfold oV;rw[bQ h,mZ h];cases hc:bY c with
 |false=>rw[Hc hc];rfl
 |true=>
  unfold dL
  show(bif decide ((length c.2.2.1:Int)>(0:Int)) then _ else _)=_
  by_cases dp:c.2.2.1.length=0
  rotate_left
  ·rw[decide_eq_true (show(length c.2.2.1:Int)>0 by omega),cond_true,ass (by unfold xO;rw[decide_eq_false dp];rfl)]
  rw[decide_eq_false (show ¬(length c.2.2.1:Int)>0 by omega),cond_false]
  by_cases h0:c.1.length=0
  ·have e:((length c.1:Int)==0)=true:=by simp[h0]
   rw[e,cond_true,ass (by unfold xO;rw[decide_eq_false (show ¬ 0<c.1.length by omega)];simp)]
  have e:((length c.1:Int)==0)=false:=by simp;intro q;exact h0 (by simp[q])
  have hmp:xO c=true:=by unfold xO;rw[decide_eq_true dp,decide_eq_true (show 0<c.1.length by omega)];rfl
  rw[e,cond_false,M' h.tl htm (by omega) (by omega)]
  unfold Qv kx
  cases hr:yQ c.1 with
  |none=>
   simp only[]
   rw[AZ h.tl htm (by omega) (by omega) hj (by omega) Na (by simp)]
   unfold Qv
   cases u5 c.1 c.2.1 []<;>rfl
  |some ps=>
   obtain⟨l1,l2⟩:=Tl hr
   simp only[]
   rw[AZ h.tl htm (by omega) (by omega) hj (by omega) Na (by omega)]
   unfold Qv
   have e0:(decide ((length ps:Int)=(length ps:Int))&&decide ((0:Int)<=(length ps:Int))&&decide ((length ps:Int)<=1099511627776))=true:=by
    rw[decide_eq_true rfl,decide_eq_true (by omega),decide_eq_true (by omega)];rfl
   have e0t:(decide True&&decide ((0:Int)<=(length ps:Int))&&decide ((length ps:Int)<=1099511627776))=true:=by
    rw[decide_eq_true trivial,decide_eq_true (by omega),decide_eq_true (by omega)];rfl
   cases hs:u5 c.1 c.2.1 ps with
   |none=>rfl
   |some ss=>
    have l3:=To hs
    simp only[hmp,cond_true]
    first |rw[e0] |rw[e0t]
    simp only[cond_true,Bool.not_true,cond_false]
    exact lh (out:=Qa c ps ss) h (Z8 h (by omega) (by omega) (by omega)) rfl hN hl
end Go.Pv.R
namespace Go.Pv.R
open List Int IntKind
def ofM (b:l7):Int:=bif decide (b.2.1>b.2.2) then 1 else 2
theorem O9 (b:l7):ofM b=1∨ofM b=2:=by unfold ofM;cases decide (b.2.1>b.2.2)<;>simp
theorem UB {N:Nat} {b:l7} {kf:Int->Option aa}:xe N b kf=kf (ofM b):=by unfold xe ofM;cases decide (b.2.1>b.2.2)<;>rfl
theorem Tp {N:Nat} {b:l7} {kf:Int->Option aa}:tk N b kf=kf (ofM b):=by unfold tk ofM;cases decide (b.2.1>b.2.2)<;>rfl
theorem zm {N:Nat} {b:l7} {kf:Bool->Option aa} (hN:2<N):jA N [b] kf=kf (cS b):=by have hm:=aq;unfold jA;rw[Hy (by simp;omega) (by simp;omega)];simp only[ud,xn];cases cS b<;>rfl
theorem jQ {N:Nat} {b:l7} {kf:Bool->Option aa} (hN:2<N):k9 N [b] kf=kf (cS b):=by have hm:=aq;unfold k9;rw[HB (by simp;omega) (by simp;omega)];simp only[ud,xo];cases cS b<;>rfl
def VT (b:l7) (k:Int):Int:=bif ofM b==k then 1 else 0
theorem Nb {N:Nat} {b:l7} {k:Int} {kf:Int->Option aa} (hN:2<N) (hb:cS b=true):rz N [b] k kf=kf (VT b k):=by have hm:=aq;unfold rz VT;rw[K1 (by simp;omega) (by simp;omega)];simp only[dV,zm hN,hb,cond_true,UB];cases ofM b==k<;>rfl
theorem Nc {N:Nat} {b:l7} {k:Int} {kf:Int->Option aa} (hN:2<N) (hb:cS b=true):rD N [b] k kf=kf (VT b k):=by have hm:=aq;unfold rD VT;rw[jQ hN,hb];simp only[Bool.not_true,cond_false];rw[K7 (by simp;omega) (by simp;omega)];simp only[dV,Tp];cases ofM b==k<;>rfl
theorem Gb {N:Nat} {b:l7} {kf:Int->Option aa} {k:Int} (hN:2<N) (hb:cS b=true):∃ r,∀ kf,p8 N [b] k kf=kf r:=by
 have hm:=aq;by_cases h1:k=1
 ·subst h1;refine⟨wrap .i64 (0+b.2.1),λkf=>?_⟩;unfold p8;rw[jQ hN,hb];simp only[Bool.not_true,cond_false];rw[xl (by simp;omega) (by simp;omega)];simp only[dV];rfl
 have e1:(k==(1:Int))=false:=by simpa using h1
 by_cases h2:k=2
 ·subst h2;refine⟨wrap .i64 (0+b.2.2),λkf=>?_⟩;unfold p8;rw[jQ hN,hb];simp only[Bool.not_true,cond_false];rw[xl (by simp;omega) (by simp;omega)];simp only[dV];rfl
 have e2:(k==(2:Int))=false:=by simpa using h2
 refine⟨0,λkf=>?_⟩;unfold p8;rw[jQ hN,hb];simp only[Bool.not_true,cond_false];rw[xl (by simp;omega) (by simp;omega)];simp only[dV,e1,e2,cond_false]
theorem Nd {N:Nat} {b:l7} {kf:Int->Option aa} (hN:2<N) (hb:cS b=true):oU N [b] kf=kf (ofM b):=by unfold oU;have e:((length [b]:Int)==(0:Int))=false:=rfl;rw[e,cond_false,zm hN,hb];simp only[Bool.not_true,cond_false,Nb hN hb];unfold VT;rcases O9 b with h |h<;>rw[h]<;>rfl
theorem Nf {N:Nat} {b:l7} {kf:Int->Option aa} (hN:2<N) (hb:cS b=true):oW N [b] kf=kf (ofM b):=by unfold oW;have e:((length [b]:Int)==(0:Int))=false:=rfl;obtain⟨r1,h1⟩:=Gb (N:=N) (b:=b) (kf:=kf) (k:=1) hN hb;obtain⟨r2,h2⟩:=Gb (N:=N) (b:=b) (kf:=kf) (k:=2) hN hb;rw[e,cond_false,jQ hN,hb];simp only[Bool.not_true,cond_false,Nc hN hb,h1,h2];unfold VT;rcases O9 b with h |h<;>rw[h]<;>rfl
def two {α:Type} (t:List α) (i j:Nat) (x y:α):List α:=(t.set i x).set j y
section
variable {α:Type} {t:List α} {i j:Nat} {x y x' y' z:α}
theorem Ng:(two t i j x y).length=t.length:=by simp[two]
theorem Z9 (h:i≠j) (hi:i<t.length):(two t i j x y).getD i z=x:=by rw[List.getD_eq_getElem?_getD,two,List.getElem?_set_ne (by omega),List.getElem?_set_self hi];rfl
theorem Z' (hj:j<t.length):(two t i j x y).getD j z=y:=by rw[List.getD_eq_getElem?_getD,two,List.getElem?_set_self (by simpa using hj)];rfl
theorem aaa (h:i≠j):(two t i j x y).set i x'=two t i j x' y:=by unfold two;rw[List.set_comm _ _ (λe=>h e.symm),List.set_set]
theorem aab:(two t i j x y).set j y'=two t i j x y':=by unfold two;rw[List.set_set]
theorem Tq (h:i≠j):(t.set i x).getD j z=t.getD j z:=by rw[List.getD_eq_getElem?_getD,List.getElem?_set_ne (by omega),←List.getD_eq_getElem?_getD]
theorem aem:(t.set i x).set j y=two t i j x y:=by rw[two]
end
def FH (t:List ak) (i:Nat) (b d p:Int):ak:=((t.getD i an).1,((t.getD i an).2.1,((bif d==1 then wrap .i64 ((t.getD i an).2.2.1+1) else(t.getD i an).2.2.1),(wrap .i64 ((t.getD i an).2.2.2.1+p),(wrap .i64 ((t.getD i an).2.2.2.2.1+1),(t.getD i an).2.2.2.2.2++[b])))))
def u6 (t:List ak) (j:Nat) (a d q:Int):ak:=((t.getD j an).1,((t.getD j an).2.1,((bif d==1 then(t.getD j an).2.2.1 else wrap .i64 ((t.getD j an).2.2.1+1)),(wrap .i64 ((t.getD j an).2.2.2.1+q),((t.getD j an).2.2.2.2.1,(t.getD j an).2.2.2.2.2++[a])))))
def GK (t:List ak) (a b d p q:Int):List ak:=two t (au t a).toNat (au t b).toNat (FH t (au t a).toNat b d p) (u6 t (au t b).toNat a d q)
def Tr (t:List ak) (a b d p q:Int):Bool:=ar t&&(decide (au t a≥0)&&(decide (au t b≥0)&&((au t a != au t b)&&(q7 d 1 2&&(q7 p 0 1000&&q7 q 0 1000)))))
def HS (t:List ak) (a b d p q:Int):Bool:=Tr t a b d p q&&ar (GK t a b d p q)
def Tt (t:List ak) (a b d p q:Int):List ak:=bif HS t a b d p q then GK t a b d p q else t
theorem HT {t:List ak} {a b d p q:Int} {N:Nat} (ha:au t a≥0) (hb:au t b≥0) (h:∀ x:ak,x∈t->x.met.length+1<N):∀ x:ak,x∈GK t a b d p q->x.met.length<N:=by
 intro x hx;unfold GK two at hx;rcases List.mem_or_eq_of_mem_set hx with hx |rfl
 ·rcases List.mem_or_eq_of_mem_set hx with hx |rfl
  ·have:=h x hx;omega
  have:=h _ (jg ha).1;show((t.getD (au t a).toNat an).2.2.2.2.2++[b]).length<N;rw[List.length_append];exact this
 have:=h _ (jg hb).1;show((t.getD (au t b).toNat an).2.2.2.2.2++[a]).length<N;rw[List.length_append];exact this
theorem Nh {N:Nat} {t:List ak} {a b d p q:Int} {kf:List ak->Bool->Option aa} (hl:t.length<=1048700) (hm:∀ x:ak,x∈t->x.met.length<=1048700/\x.met.length+1<N) (hN:t.length<N):mO N t a b d p q kf=kf (Tt t a b d p q) (HS t a b d p q):=by
 have hx:=aq;have hm1:∀ x∈t,x.met.length<=maxLen/\x.met.length<N:=λx hx=>by have:=hm x hx;omega
 unfold mO Tt HS Tr;rw[om hl (λx hx=>(hm x hx).1) hN,c6 (by omega) hN,c6 (by omega) hN,c7 (by omega) hm1 hN];simp only[ka];cases ar t with
 |false=>rfl
 |true=>
  by_cases ha:au t a≥0
  rotate_left
  ·rw[decide_eq_true (show au t a<0 by omega),decide_eq_false ha];rfl
  by_cases hb:au t b≥0
  rotate_left
  ·rw[decide_eq_false (show ¬au t a<0 by omega),decide_eq_true ha,decide_eq_true (show au t b<0 by omega),decide_eq_false hb];rfl
  have hT:∀ x:ak,x∈GK t a b d p q->x.met.length<N:=HT ha hb λx hx=>(hm x hx).2
  have hT2:∀ x:ak,x∈GK t a b d p q->x.met.length<1048800:=HT ha hb λx hx=>by have:=(hm x hx).1;omega
  obtain⟨i,hi,ei,_⟩:=ck (p:=λx:ak=>x.1==a) (l:=t) (by unfold au at ha;omega)
  obtain⟨j,hj,ej,_⟩:=ck (p:=λx:ak=>x.1==b) (l:=t) (by unfold au at hb;omega)
  have ei:au t a=(i:Int):=ei
  have ej:au t b=(j:Int):=ej
  unfold GK at hT hT2 ⊢
  rw[ei,ej] at hT hT2 ⊢
  simp only[toNat_natCast] at hT hT2 ⊢
  rw[decide_eq_true (show(i:Int)≥0 by omega),decide_eq_true (show(j:Int)≥0 by omega),decide_eq_false (show ¬(i:Int)<0 by omega),decide_eq_false (show ¬(j:Int)<0 by omega)]
  simp only[Bool.not_true,cond_false,Bool.true_and]
  by_cases Ev:i=j
  ·subst Ev;simp
  have e1:((i:Int)==(j:Int))=false:=by simpa using λe=>Ev (by omega)
  have e2:((i:Int) != (j:Int))=true:=by simp only[bne,e1];rfl
  rw[e1,e2]
  cases q7 d 1 2 with
  |false=>rfl
  |true=>
  cases q7 p 0 1000 with
  |false=>rfl
  |true=>
  cases q7 q 0 1000 with
  |false=>rfl
  |true=>
  have li:=(hm _ (List.getElem_mem hi)).1
  have lj:=(hm _ (List.getElem_mem hj)).1
  have gi:t.getD i an=t[i]:=af _ _ hi _
  have gj:t.getD j an=t[j]:=af _ _ hj _
  have b1:decide ((length (t.getD i an).2.2.2.2.2+length [b])*1<=4398046511104)=true:=by rw[gi];exact decide_eq_true (by have:t[i].2.2.2.2.2.length<=1048700:=li;simp;omega)
  have b2:decide ((length (t.getD j an).2.2.2.2.2+length [a])*1<=4398046511104)=true:=by rw[gj];exact decide_eq_true (by have:t[j].2.2.2.2.2.length<=1048700:=lj;simp;omega)
  simp only[Tq Ev,List.length_set,ai hi,ai hj,cond_true,cond_false,Bool.not_true,b1,b2,Nat.beq_refl,share,aem,Ng,Z9 Ev hi,Z' hj,aaa Ev,aab,Bool.true_and]
  have hW:(two t i j (FH t i b d p) (u6 t j a d q)).length=t.length:=Ng
  have key:pr N t kf (two t i j (FH t i b d p) (u6 t j a d q))=kf (bif ar (two t i j (FH t i b d p) (u6 t j a d q)) then two t i j (FH t i b d p) (u6 t j a d q) else t) (ar (two t i j (FH t i b d p) (u6 t j a d q))):=by
   unfold pr
   rw[c7 (by omega) (λx hx=>⟨by have:=hT2 x hx;omega,hT x hx⟩) (by omega)]
   cases ar (two t i j (FH t i b d p) (u6 t j a d q)) with
   |false=>simp only[Bool.not_false,cond_true,cond_false];rw[om hl (λx hx=>(hm x hx).1) hN]
   |true=>rfl
  refine Eq.trans ?_ key
  unfold FH u6
  cases d==1<;>rfl
theorem Ni {N:Nat} {t:List ak} {a b d p q:Int} {kf:List ak->Bool->Option aa} (hl:t.length<=1048700) (hm:∀ x:ak,x∈t->x.met.length<=1048700/\x.met.length+1<N) (hN:t.length<N):mU N t a b d p q kf=kf (Tt t a b d p q) (HS t a b d p q):=by
 have hx:=aq;have hm1:∀ x∈t,x.met.length<=maxLen/\x.met.length<N:=λx hx=>by have:=hm x hx;omega
 unfold mU Tt HS Tr;rw[sM hl (λx hx=>(hm x hx).1) hN,cF (by omega) hN,cF (by omega) hN,c8 (by omega) hm1 hN];simp only[fw];cases ar t with
 |false=>rfl
 |true=>
  by_cases ha:au t a≥0
  rotate_left
  ·rw[decide_eq_true (show au t a<0 by omega),decide_eq_false ha];rfl
  by_cases hb:au t b≥0
  rotate_left
  ·rw[decide_eq_false (show ¬au t a<0 by omega),decide_eq_true ha,decide_eq_true (show au t b<0 by omega),decide_eq_false hb];rfl
  have hT:∀ x:ak,x∈GK t a b d p q->x.met.length<N:=HT ha hb λx hx=>(hm x hx).2
  have hT2:∀ x:ak,x∈GK t a b d p q->x.met.length<1048800:=HT ha hb λx hx=>by have:=(hm x hx).1;omega
  obtain⟨i,hi,ei,_⟩:=ck (p:=λx:ak=>x.1==a) (l:=t) (by unfold au at ha;omega)
  obtain⟨j,hj,ej,_⟩:=ck (p:=λx:ak=>x.1==b) (l:=t) (by unfold au at hb;omega)
  have ei:au t a=(i:Int):=ei
  have ej:au t b=(j:Int):=ej
  unfold GK at hT hT2 ⊢
  rw[ei,ej] at hT hT2 ⊢
  simp only[toNat_natCast] at hT hT2 ⊢
  rw[decide_eq_true (show(i:Int)≥0 by omega),decide_eq_true (show(j:Int)≥0 by omega),decide_eq_false (show ¬(i:Int)<0 by omega),decide_eq_false (show ¬(j:Int)<0 by omega)]
  simp only[Bool.not_true,cond_false,Bool.true_and]
  by_cases Ev:i=j
  ·subst Ev;simp
  have e1:((i:Int)==(j:Int))=false:=by simpa using λe=>Ev (by omega)
  have e2:((i:Int) != (j:Int))=true:=by simp only[bne,e1];rfl
  rw[e1,e2]
  cases q7 d 1 2 with
  |false=>rfl
  |true=>
  cases q7 p 0 1000 with
  |false=>rfl
  |true=>
  cases q7 q 0 1000 with
  |false=>rfl
  |true=>
  have li:=(hm _ (List.getElem_mem hi)).1
  have lj:=(hm _ (List.getElem_mem hj)).1
  have gi:t.getD i an=t[i]:=af _ _ hi _
  have gj:t.getD j an=t[j]:=af _ _ hj _
  have b1:decide ((length (t.getD i an).2.2.2.2.2+length [b])*1<=4398046511104)=true:=by rw[gi];exact decide_eq_true (by have:t[i].2.2.2.2.2.length<=1048700:=li;simp;omega)
  have b2:decide ((length (t.getD j an).2.2.2.2.2+length [a])*1<=4398046511104)=true:=by rw[gj];exact decide_eq_true (by have:t[j].2.2.2.2.2.length<=1048700:=lj;simp;omega)
  have hnb:Nat.beq i j=false:=by
   cases h:Nat.beq i j with
   |false=>rfl
   |true=>exact absurd (Nat.eq_of_beq_eq_true h) Ev
  have hW:(two t i j (FH t i b d p) (u6 t j a d q)).length=t.length:=Ng
  have key:(cK N (two t i j (FH t i b d p) (u6 t j a d q)) (λ(W5:Bool)=>
       bif (!W5) then
        jD N t (λ(W6:(List QT))=>
         kf W6 false)
       else
        kf (two t i j (FH t i b d p) (u6 t j a d q)) true))=kf (bif ar (two t i j (FH t i b d p) (u6 t j a d q)) then two t i j (FH t i b d p) (u6 t j a d q) else t) (ar (two t i j (FH t i b d p) (u6 t j a d q))):=by
   rw[c8 (by omega) (λx hx=>⟨by have:=hT2 x hx;omega,hT x hx⟩) (by omega)]
   cases ar (two t i j (FH t i b d p) (u6 t j a d q)) with
   |false=>simp only[Bool.not_false,cond_true,cond_false];rw[sM hl (λx hx=>(hm x hx).1) hN]
   |true=>rfl
  refine Eq.trans ?_ key
  simp only[uF,toNat_natCast,hnb,Bool.not_false,Bool.and_true,Tq Ev,List.length_set,ai hi,ai hj,cond_true,cond_false,Bool.not_true,b1,b2,Nat.beq_refl,share,aem,Ng,Z9 Ev hi,Z' hj,aaa Ev,aab,Bool.true_and]
  unfold FH u6
  cases d==1<;>rfl
end Go.Pv.R
namespace Go.Pv
open List Int IntKind
theorem VU {α β:Type} {f:α->β} {p:β->Bool}:∀ (l:List α) (i:Nat),ru p (l.map f) i=ru (λx=>p (f x)) l i
 |[],_=>rfl
 |x::r,i=>by simp only[List.map_cons,ru,VU r]
theorem J4 {α β:Type} {c:Nat->α->Bool} {f:Nat->α->β}:∀ (l:List α) (i:Nat),(gO c f l i).length=0->∀ (j:Nat) (h:j<l.length),c (i+j) l[j]=false
 |[],i,_,j,h=>by simp at h
 |x::r,i,hl,j,h=>by
  simp only[gO] at hl;cases hc:c i x with
  |true=>rw[hc] at hl;simp at hl
  |false=>
  rw[hc,cond_false] at hl;cases j with
  |zero=>exact hc
  |succ j=>have:=J4 r (i+1) hl j (by simpa using h);rw[show i+(j+1)=i+1+j by omega];exact this
end Go.Pv
namespace Go.Pv.R
open List Int IntKind
theorem afO {l m:List bc} {id:Int} (h:l.map (λx:bc=>x.1)=m.map λx:bc=>x.1):dA l id=dA m id:=by unfold dA oh;have e:∀ l:List bc,ru (λx:bc=>x.1==id) l 0=ru (λy:Int=>y==id) (l.map λx:bc=>x.1) 0:=λl=>(VU (f:=λx:bc=>x.1) (p:=λy:Int=>y==id) l 0).symm;rw[e l,e m,h]
theorem alo {s:List Int} {a b:Int} (h:QX s):jM (tc (s++[a,b]))=yP (yP s a) b:=by
 obtain⟨h1,h2⟩:=Uy (tc (s++[a,b])) (ai7 _);refine ad' h1 (HG (HG h)) λx=>?_;rw[h2,afE,MZ,MZ];simp only[List.mem_append,List.mem_cons,List.not_mem_nil,or_false];constructor
 ·rintro(h |h |h)<;>simp[h]
 rintro(h |h |h)<;>simp[h]
theorem Lg {t:List ak} {a b d p q:Int} (h:HS t a b d p q=true):au t a≥0/\au t b≥0:=by unfold HS Tr at h;simp only[Bool.and_eq_true,decide_eq_true_eq] at h;exact⟨h.1.2.1,h.1.2.2.1⟩
theorem ajg {t:List ak} {a b d p q:Int}:(Tt t a b d p q).length=t.length:=by
 unfold Tt;cases HS t a b d p q with
 |false=>rfl
 |true=>exact Ng
theorem ajh {t:List ak} {a b d p q:Int} {M:Nat} (h:∀ x:ak,x∈t->x.met.length<=M):∀ x:ak,x∈Tt t a b d p q->x.met.length<=M+1:=by
 intro x hx;unfold Tt at hx;cases hb:HS t a b d p q with
 |false=>rw[hb,cond_false] at hx;have:=h x hx;omega
 |true=>rw[hb,cond_true] at hx;have:=HT (N:=M+2) (Lg hb).1 (Lg hb).2 (λx hx=>by have:=h x hx;omega) x hx;omega
def aji (js:List bc) (k:Nat) (a b:Int):List bc:=js.set k ((js.getD k dY).1,((js.getD k dY).2.1,yP (yP (js.getD k dY).2.2 a) b))
theorem ajj {js:List bc} {k:Nat} {a b:Int} (hk:k<js.length):(aji js k a b).map (λx:bc=>x.1)=js.map λx:bc=>x.1:=by
 unfold aji;rw[List.map_set];apply List.ext_getElem (by simp);intro i h1 h2;rw[List.getElem_set];split
 ·rename_i e;subst e;rw[af _ _ hk];simp
 rfl
theorem ajk {js:List bc} {k:Nat} {a b:Int} {M:Nat} (hk:k<js.length) (h:∀ x:bc,x∈js->QX x.2.2/\x.2.2.length<=M):∀ x:bc,x∈aji js k a b->QX x.2.2/\x.2.2.length<=M+2:=by
 intro x hx;unfold aji at hx;rcases List.mem_or_eq_of_mem_set hx with hx |rfl
 ·have:=h x hx;exact⟨this.1,by omega⟩
 have:=h (js.getD k dY) (by rw[af _ _ hk];exact List.getElem_mem hk);have l1:=M0 (js.getD k dY).2.2 a;have l2:=M0 (yP (js.getD k dY).2.2 a) b;refine⟨HG (HG this.1),?_⟩;show(yP (yP (js.getD k dY).2.2 a) b).length<=M+2;omega
def DZ (c:ax) (i:Nat):l7:=c.2.2.2.2.1.getD i oO
def kW (c:ax) (i:Nat):Int:=c.2.2.2.1.getD i 0
def J5 (c:ax) (i:Nat) (x:cW) (s:ax):Bool:=HS s.1 x.1 x.2 (ofM (DZ c i)) (DZ c i).2.1 (DZ c i).2.2
def HU (c:ax) (i:Nat) (x:cW) (s:ax):ax:=(Tt s.1 x.1 x.2 (ofM (DZ c i)) (DZ c i).2.1 (DZ c i).2.2,(aji s.2.1 (dA s.2.1 (kW c i)).toNat x.1 x.2,s.2.2))
def fk (c:ax):List cW->Nat->ax->Bool->ax×Bool
 |[],_,s,ok=>(s,ok)
 |x::r,i,s,ok=>fk c r (i+1) (HU c i x s) (ok&&J5 c i x s)
structure Ac (c:ax):Prop where
 t10:c.1.length<=10
 tm:∀ x:ak,x∈c.1->x.met.length<=20
 j10:c.2.1.length<=10
 js:∀ x:bc,x∈c.2.1->QX x.2.2/\x.2.2.length<=99
 r10:c.2.2.1.length<=10
 sl:c.2.2.2.1.length=c.2.2.1.length
 bl:c.2.2.2.2.1.length=c.2.2.1.length
 sf:∀ i,i<c.2.2.1.length->dA c.2.1 (kW c i)≥0
 bb:∀ i,i<c.2.2.1.length->cS (DZ c i)=true
structure jR (c:ax) (i:Nat) (s:ax):Prop where
 tl:s.1.length=c.1.length
 tm:∀ x:ak,x∈s.1->x.met.length<=20+i
 ji:s.2.1.map (λx:bc=>x.1)=c.2.1.map λx:bc=>x.1
 js:∀ x:bc,x∈s.2.1->QX x.2.2/\x.2.2.length<=99+2*i
 re:s.2.2=c.2.2
theorem jR.api {c s:ax} {i:Nat} (h:jR c i s):s.2.1.length=c.2.1.length:=by have:=congrArg length h.ji;simpa using this
theorem jR.fjd {c s:ax} {i:Nat} (h:jR c i s) (id:Int):dA s.2.1 id=dA c.2.1 id:=afO h.ji
theorem Lh {c s:ax} {i:Nat} {x:cW} (hc:Ac c) (hi:i<c.2.2.1.length) (h:jR c i s):jR c (i+1) (HU c i x s):=by have hf:=hc.sf i hi;rw[←h.fjd] at hf;have hk:=(DQ hf).2;exact⟨by rw[←h.tl];exact ajg,λy hy=>by have:=ajh h.tm y hy;omega,by rw[←h.ji];exact ajj hk,λy hy=>by have:=ajk hk h.js y hy;exact⟨this.1,by omega⟩,h.re⟩
theorem Li {c:ax} (hc:Ac c):∀ (r:List cW) (i:Nat) (s:ax) (ok:Bool),i+r.length=c.2.2.1.length->jR c i s->jR c c.2.2.1.length (fk c r i s ok).1
 |[],i,s,ok,h,hs=>by simp at h;subst h;exact hs
 |x::r,i,s,ok,h,hs=>by simp only[List.length_cons] at h;exact Li hc r (i+1) _ _ (by omega) (Lh hc (by omega) hs)
theorem FJ {c:ax}:∀ (r:List cW) (i:Nat) (s:ax),(fk c r i s false).2=false
 |[],i,s=>rfl
 |x::r,i,s=>by unfold fk;rw[Bool.false_and];exact FJ r (i+1) _
theorem Gc {N:Nat} {c:ax} {k:ax->Bool->Option aa} {body:Nat->cW->ax->Bool->(ax->Bool->Option aa)->Option aa} (hb:∀ (i:Nat) (x:cW) (s:ax) (ok:Bool) (next:ax->Bool->Option aa),i<c.2.2.1.length->jR c i s->body i x s ok next=next (HU c i x s) (ok&&J5 c i x s)) (hc:Ac c):∀ (r:List cW) (i:Nat) (s:ax) (ok:Bool),i+r.length=c.2.2.1.length->jR c i s->WK body k r i s ok=k (fk c r i s ok).1 (fk c r i s ok).2
 |[],i,s,ok,h,hs=>rfl
 |x::r,i,s,ok,h,hs=>by simp only[List.length_cons] at h;simp only[WK];rw[hb i x s ok _ (by omega) hs];exact Gc (N:=N) hb hc r (i+1) _ _ (by omega) (Lh hc (by omega) hs)
theorem Gd {N:Nat} {c:ax} {k:ax->Option aa} {no:Option aa} {body:Nat->cW->ax->(ax->Option aa)->Option aa} (hb:∀ (i:Nat) (x:cW) (s:ax) (next:ax->Option aa),i<c.2.2.1.length->jR c i s->body i x s next=bif J5 c i x s then next (HU c i x s) else no) (hc:Ac c):∀ (r:List cW) (i:Nat) (s:ax),i+r.length=c.2.2.1.length->jR c i s->dV body k r i s=bif (fk c r i s true).2 then k (fk c r i s true).1 else no
 |[],i,s,h,hs=>rfl
 |x::r,i,s,h,hs=>by
  simp only[List.length_cons] at h;simp only[dV];rw[hb i x s _ (by omega) hs];unfold fk;rw[Bool.true_and];cases J5 c i x s with
  |false=>rw[FJ];rfl
  |true=>exact Gd (N:=N) hb hc r (i+1) _ (by omega) (Lh hc (by omega) hs)
theorem Qw {N:Nat} {c s:ax} {i:Nat} {x:cW} {next:ax->Bool->Option aa} {ok:Bool} (hc:Ac c) (atu:200<N) (hi:i<c.2.2.1.length) (h:jR c i s): (bif (aD (i:Int) (length c.2.2.2.2.1)) then oU N [(getD c.2.2.2.2.1 (toNat (i:Int)) oO)] (λ(Sp:Int)=> mO N s.1 x.1 x.2 Sp (getD c.2.2.2.2.1 (toNat (i:Int)) oO).2.1 (getD c.2.2.2.2.1 (toNat (i:Int)) oO).2.2 (λ(Hm:(List QT)) (E9:Bool)=> bif ok then bif (aD (i:Int) (length c.2.2.2.1)) then gD N s.2.1 (getD c.2.2.2.1 (toNat (i:Int)) (0:Int)) (λ(mQ:Int)=> bif (aD mQ (length s.2.1)) then dI N (getD s.2.1 (toNat mQ) dY).2.2 x.1 (λ(Sq:(List Int))=> dI N Sq x.2 (λ(Mv:(List Int))=> bif (aD mQ (length s.2.1)) then next (Hm,((List.set s.2.1 (toNat mQ) ((getD s.2.1 (toNat mQ) dY).1,((getD s.2.1 (toNat mQ) dY).2.1,Mv))),s.2.2)) E9 else none)) else none) else none else bif (aD (i:Int) (length c.2.2.2.1)) then gD N s.2.1 (getD c.2.2.2.1 (toNat (i:Int)) (0:Int)) (λ(mR:Int)=> bif (aD mR (length s.2.1)) then dI N (getD s.2.1 (toNat mR) dY).2.2 x.1 (λ(KO:(List Int))=> dI N KO x.2 (λ(Mw:(List Int))=> bif (aD mR (length s.2.1)) then next (Hm,((List.set s.2.1 (toNat mR) ((getD s.2.1 (toNat mR) dY).1,((getD s.2.1 (toNat mR) dY).2.1,Mw))),s.2.2)) false else none)) else none) else none)) else none)=next (HU c i x s) (ok&&J5 c i x s):=by
 have hx:=aq;have r10:=hc.r10;have t10:=hc.t10;have j10:=hc.j10;have tl:=h.tl;have jl:=h.api;have hf:=hc.sf i hi;rw[←h.fjd] at hf;obtain⟨f1,f2⟩:=DQ hf;have eb:getD c.2.2.2.2.1 (toNat (i:Int)) oO=DZ c i:=rfl;have es:getD c.2.2.2.1 (toNat (i:Int)) (0:Int)=kW c i:=rfl;have hj:=h.js (getD s.2.1 (dA s.2.1 (kW c i)).toNat dY) (by rw[af _ _ f2];exact List.getElem_mem f2);have l1:=M0 (getD s.2.1 (dA s.2.1 (kW c i)).toNat dY).2.2 x.1;rw[eb,es,ai (show i<c.2.2.2.2.1.length by rw[hc.bl];exact hi),ai (show i<c.2.2.2.1.length by rw[hc.sl];exact hi),cond_true,Nd (by omega) (hc.bb i hi),Nh (by omega) (λy hy=>by have:=h.tm y hy;omega) (by omega)];simp only[cond_true,F6 (N:=N) (l:=s.2.1) (id:=kW c i) (by omega) (by omega),f1,HI (N:=N) (l:=(getD s.2.1 (dA s.2.1 (kW c i)).toNat dY).2.2) (n:=x.1) (by omega) (by omega),HI (N:=N) (l:=yP (getD s.2.1 (dA s.2.1 (kW c i)).toNat dY).2.2 x.1) (n:=x.2) (by omega) (by omega)];cases ok with
 |true=>rfl
 |false=>rfl
theorem Qx {N:Nat} {c s:ax} {i:Nat} {x:cW} {next:ax->Option aa} {kf:ax->Bool->Option aa} (ho:bo c N) (hc:Ac c) (atu:200<N) (hi:i<c.2.2.1.length) (h:jR c i s): (bif (aD (i:Int) (length c.2.2.2.2.1)) then oW N [(getD c.2.2.2.2.1 (toNat (i:Int)) oO)] (λ(SB:Int)=> mU N s.1 x.1 x.2 SB (getD c.2.2.2.2.1 (toNat (i:Int)) oO).2.1 (getD c.2.2.2.2.1 (toNat (i:Int)) oO).2.2 (λ(SC:(List QT)) (SD:Bool)=> bif (!SD) then aF N c (λ(SE:QC)=> kf SE false) else bif (aD (i:Int) (length c.2.2.2.1)) then j8 N s.2.1 (getD c.2.2.2.1 (toNat (i:Int)) (0:Int)) (λ(gL:Int)=> bif (aD gL (length s.2.1)) then bif (decide ((length (getD s.2.1 (toNat gL) dY).2.2+length [x.1,x.2])*1<=4398046511104)) then acb N ((getD s.2.1 (toNat gL) dY).2.2++[x.1,x.2]) (λ(SF:(List Int))=> afC N SF (λ(SG:(List Int))=> bif (aD gL (length s.2.1)) then bif (Nat.beq (toNat gL) (toNat gL)) then next (SC,((List.set s.2.1 (toNat gL) ((getD s.2.1 (toNat gL) dY).1,((getD s.2.1 (toNat gL) dY).2.1,SG))),s.2.2)) else none else none)) else none else none) else none)) else none)=bif J5 c i x s then next (HU c i x s) else kf c false:=by have hx:=aq;have r10:=hc.r10;have t10:=hc.t10;have j10:=hc.j10;have tl:=h.tl;have jl:=h.api;have hf:=hc.sf i hi;rw[←h.fjd] at hf;obtain⟨f1,f2⟩:=DQ hf;have eb:getD c.2.2.2.2.1 (toNat (i:Int)) oO=DZ c i:=rfl;have es:getD c.2.2.2.1 (toNat (i:Int)) (0:Int)=kW c i:=rfl;have hj:=h.js (getD s.2.1 (dA s.2.1 (kW c i)).toNat dY) (by rw[af _ _ f2];exact List.getElem_mem f2);have ed:decide ((length (getD s.2.1 (dA s.2.1 (kW c i)).toNat dY).2.2+length [x.1,x.2])*1<=4398046511104)=true:=decide_eq_true (by simp only[List.length_cons,List.length_nil];omega);rw[eb,es,ai (show i<c.2.2.2.2.1.length by rw[hc.bl];exact hi),ai (show i<c.2.2.2.1.length by rw[hc.sl];exact hi),cond_true,Nf (by omega) (hc.bb i hi),Ni (by omega) (λy hy=>by have:=h.tm y hy;omega) (by omega)];simp only[cond_true,bQ ho,yM (N:=N) (l:=s.2.1) (id:=kW c i) (by omega) (by omega),f1,ed,Nat.beq_refl];rw[ale (by simp only[List.length_append,List.length_cons,List.length_nil];omega),alf,alo hj.1];show(bif !J5 c i x s then kf c false else next (HU c i x s))=_;cases J5 c i x s<;>rfl
end Go.Pv.R
namespace Go.Pv.R
open List Int IntKind
theorem aac {s:List Int} (h:ZP s=true):QX s/\s.length<=99:=by
 unfold ZP at h;rw[iv] at h;have step:∀ (i:Nat) (hi:i<s.length),(1<=s[i]/\s[i]<=99)/\(0<i->s.getD (i - 1) 0<s[i]):=λi hi=>by have:=h i hi;rw[Nat.zero_add] at this;simp only[Bool.and_eq_true,Bool.or_eq_true,decide_eq_true_eq,uX] at this;exact⟨this.1,λh0=>by omega⟩
 have mono:∀ (i:Nat) (hi:i<s.length) (j:Nat) (hj:j<i),s[j]'(by omega)<s[i]:=by
  intro i;induction i with
  |zero=>intro hi j hj;omega
  |succ i ih=>
  intro hi j hj;have h1:=(step (i+1) hi).2 (by omega);rw[Nat.add_sub_cancel,af _ _ (show i<s.length by omega)] at h1;rcases Nat.lt_or_eq_of_le (Nat.le_of_lt_succ hj) with h2 |rfl
  ·have:=ih (by omega) j h2;omega
  exact h1
 have ha:QX s:=List.pairwise_iff_getElem.2 λj i hj hi zN=>mono i hi j zN;refine⟨ha,?_⟩;have hn:s.Nodup:=ha.imp λh=>by omega
 have:=DY s ((List.range 100).map λn:Nat=>(n:Int)) hn λx hx=>by obtain⟨i,hi,rfl⟩:=List.mem_iff_getElem.1 hx;have:=(step i hi).1;exact List.mem_map.2 ⟨s[i].toNat,by rw[List.mem_range];omega,by omega⟩
 have h0:(0:Int)∉s:=λhc=>by obtain⟨i,hi,e⟩:=List.mem_iff_getElem.1 hc;have:=(step i hi).1;omega
 have:=DY (0::s) ((List.range 100).map λn:Nat=>(n:Int)) (List.nodup_cons.2 ⟨h0,hn⟩) λx hx=>by
  rcases List.mem_cons.1 hx with rfl |hx
  ·exact List.mem_map.2 ⟨0,by simp,rfl⟩
  obtain⟨i,hi,rfl⟩:=List.mem_iff_getElem.1 hx;have:=(step i hi).1;exact List.mem_map.2 ⟨s[i].toNat,by rw[List.mem_range];omega,by omega⟩
 simp only[List.length_cons,List.length_map,List.length_range] at this;omega
theorem aen {c:ax} (hc:bY c=true) (hr:c.2.2.1.length≠0) (hw:(aX c).length=0):Ac c:=by
 obtain⟨l1,l2⟩:=B' hc;unfold bY at hc;simp only[Bool.and_eq_true,Bool.or_eq_true,decide_eq_true_eq] at hc;obtain⟨ht,hj,_,_,_,hs,hb,_⟩:=hc;have hs:lJ c.1 c.2.2.1=true/\gQ c.1 c.2.1 c.2.2.1 c.2.2.2.1=true:=hs.resolve_left hr;obtain⟨_,hs⟩:=hs;unfold gQ at hs;simp only[Bool.and_eq_true,decide_eq_true_eq] at hs;obtain⟨_,_,hs⟩:=hs;rw[iv] at hs;unfold ar at ht;simp only[Bool.and_eq_true,decide_eq_true_eq] at ht;obtain⟨t10,htp,_⟩:=ht;unfold cf at hj;simp only[Bool.and_eq_true,decide_eq_true_eq] at hj;obtain⟨j10,hjp⟩:=hj;rw[iv] at htp hjp hb;have sP:∀ i,i<c.2.2.1.length->dA c.2.1 (kW c i)≥0/\Ab (c.2.2.2.1.take i) (kW c i)=false:=λi hi=>by have:=hs i hi;rw[Nat.zero_add] at this;unfold DR at this;simp only[Bool.and_eq_true,decide_eq_true_eq,Bool.not_eq_true'] at this;exact⟨this.1,this.2.1⟩
 have hn:c.2.2.2.1.Nodup:=List.pairwise_iff_getElem.2 λi j hi hj Ev e=>by have h1:=(sP j (by omega)).2;have h2:Ab (c.2.2.2.1.take j) (kW c j)=true:=(by rw[yc];unfold kW;rw[af _ _ hj,←e];exact List.mem_iff_getElem.2 ⟨i,by rw[List.length_take];omega,by rw[List.getElem_take]⟩);rw[h1] at h2;cases h2
 have hle:=DY c.2.2.2.1 (c.2.1.map λx:bc=>x.1) hn λx hx=>by obtain⟨i,hi,rfl⟩:=List.mem_iff_getElem.1 hx;have h1:=(sP i (by omega)).1;unfold kW at h1;rw[af _ _ hi] at h1;obtain⟨k,hk,e,h2,_⟩:=ck (p:=λx:bc=>x.1==c.2.2.2.1[i]) (l:=c.2.1) (by unfold dA at h1;omega);exact List.mem_map.2 ⟨c.2.1[k],List.getElem_mem hk,by simpa using h2⟩
 rw[List.length_map] at hle;refine⟨t10,λx hx=>?_,j10,λx hx=>?_,by omega,l1,l2,λi hi=>(sP i hi).1,λi hi=>?_⟩
 ·obtain⟨i,hi,rfl⟩:=List.mem_iff_getElem.1 hx;have:=htp i hi;unfold qM at this;simp only[Bool.and_eq_true,decide_eq_true_eq] at this;exact this.2.2.2.2.2.1
 ·obtain⟨i,hi,rfl⟩:=List.mem_iff_getElem.1 hx;have:=hjp i hi;unfold AQ at this;simp only[Bool.and_eq_true,decide_eq_true_eq] at this;exact aac this.2.2.2
 have yB:i<c.2.2.2.2.1.length:=by omega
 have h1:=J4 c.2.2.2.2.1 0 hw i yB;have h2:=hb i yB;rw[Nat.zero_add] at h2;unfold uV at h2;simp only[h1,Bool.false_or,Bool.and_eq_true] at h2;unfold DZ;rw[af _ _ yB];exact h2.1
def UC (c s:ax):ax:=(s.1,(s.2.1,([],([],([],(s.2.2.2.2.2.1,wrap .i64 (c.2.2.2.2.2.2+(length c.2.2.1:Int))))))))
def A3 (c:ax):Bool:=bY c&&(decide (c.2.2.1.length≠0)&&decide ((aX c).length=0))
def nV (c:ax):ax×Bool:=bif A3 c&&(fk c c.2.2.1 0 c true).2 then(qN c (UC c (fk c c.2.2.1 0 c true).1) 5 0,oo c (UC c (fk c c.2.2.1 0 c true).1) 5 0) else(c,false)
theorem IU {c:ax} (hc:Ac c):jR c 0 c:=⟨rfl,λx hx=>by have:=hc.tm x hx;omega,rfl,λx hx=>by have:=hc.js x hx;exact⟨this.1,by omega⟩,rfl⟩
theorem aeo {c s:ax} {N:Nat} (h:bo c N) (hc:Ac c) (hs:jR c c.2.2.1.length s) (hN:200<N):bo (UC c s) N:=by
 have hx:=aq;have r10:=hc.r10;have t10:=hc.t10;have j10:=hc.j10;have tl:=hs.tl;have jl:=hs.api;have ht:∀ x:ak,x∈s.1->x.met.length<=40:=λx hx=>by have:=hs.tm x hx;omega
 have hj:∀ x:bc,x∈s.2.1->x.2.2.length<=140:=λx hx=>by have:=(hs.js x hx).2;omega
 have hre:s.2.2.2.2.2.1=c.2.2.2.2.2.1:=by rw[hs.re]
 exact⟨by show s.1.length<=_;omega,λx hx=>⟨by have:=ht x hx;omega,by have:=ht x hx;omega⟩,by show s.1.length<_;omega,by show s.2.1.length<=_;omega,λx hx=>⟨by have:=hj x hx;omega,by have:=hj x hx;omega⟩,by show s.2.1.length<_;omega,by show 0<=_;omega,by show 2*0<_;omega,by show 0<=_;omega,by show 0<_;omega,by show 0<=_;omega,by show 0<_;omega,by show s.2.2.2.2.2.1.length<=_;rw[hre];exact h.ml,by show s.2.2.2.2.2.1.length<_;rw[hre];exact h.mN,h.n8,by show s.1.length<=_;omega,λx hx=>by have:=ht x hx;omega,by show s.2.1.length<=_;omega,λx hx=>by have:=hj x hx;omega⟩
theorem Q1 (n:Nat):decide ((n:Int)>(0:Int))=!decide (n=0):=by
 by_cases h:n=0
 ·rw[decide_eq_false (by omega),decide_eq_true h];rfl
 rw[decide_eq_true (by omega),decide_eq_false h];rfl
theorem Nj {N:Nat} {c:ax} {kf:ax->Bool->Option aa} (h:bo c N) (hN:200<N) (hl:c.2.2.2.2.2.1.length+1<N):p7 N c kf=kf (nV c).1 (nV c).2:=by
 have hx:=aq;have hr:=h.rl;have hr2:=h.rN;unfold p7 nV A3;rw[lf h,uW h];cases hc:bY c with
 |false=>rfl
 |true=>
 simp only[Bool.not_true,cond_false,Bool.true_and];unfold kI;rw[Q1];by_cases dp:c.2.2.1.length=0
 ·rw[decide_eq_true dp,decide_eq_false (λe=>e dp)];rfl
 ·rw[decide_eq_false dp,decide_eq_true dp]
  simp only[Bool.not_true,Bool.not_false,cond_false,Bool.true_and]
  rw[yN h,Q1]
  by_cases hw:(aX c).length=0
  rotate_left
  ·rw[decide_eq_false hw];rfl
  ·rw[decide_eq_true hw]
   have ho:=aen hc dp hw
   have hi:=Li ho c.2.2.1 0 c true (by omega) (IU ho)
   simp only[Bool.not_true,cond_false,Bool.true_and]
   rw[I9 (by omega) (by omega),Gc (N:=N) (c:=c) (λi x s ok next hi hs=>Qw ho hN hi hs) ho c.2.2.1 0 c true (by omega) (IU ho)]
   refine(lg (out:=UC c (fk c c.2.2.1 0 c true).1) h (λ_=>aeo h ho hi hN) hN hl).trans ?_
   cases (fk c c.2.2.1 0 c true).2<;>rfl
theorem Nk {N:Nat} {c:ax} {kf:ax->Bool->Option aa} (h:bo c N) (hN:200<N) (hl:c.2.2.2.2.2.1.length+1<N):mV N c kf=kf (nV c).1 (nV c).2:=by
 have hx:=aq;have hr:=h.rl;have hr2:=h.rN;unfold mV nV A3;rw[bQ h,mZ h];cases hc:bY c with
 |false=>rfl
 |true=>
 simp only[Bool.not_true,cond_false,Bool.true_and];unfold dL;rw[Q1];by_cases dp:c.2.2.1.length=0
 ·rw[decide_eq_true dp,decide_eq_false (λe=>e dp)];rfl
 ·rw[decide_eq_false dp,decide_eq_true dp]
  simp only[Bool.not_true,Bool.not_false,cond_false,Bool.true_and]
  rw[sj h,Q1]
  by_cases hw:(aX c).length=0
  rotate_left
  ·rw[decide_eq_false hw]
   rfl
  ·rw[decide_eq_true hw]
   have ho:=aen hc dp hw
   have hi:=Li ho c.2.2.1 0 c true (by omega) (IU ho)
   simp only[Bool.not_true,cond_false,Bool.true_and]
   rw[bQ h,Jf (by omega) (by omega),Gd (N:=N) (c:=c) (no:=kf c false) (λi x s next hi hs=>Qx h ho hN hi hs) ho c.2.2.1 0 c (by omega) (IU ho)]
   cases tM:(fk c c.2.2.1 0 c true).2 with
   |false=>rfl
   |true=>
    have hre:(fk c c.2.2.1 0 c true).1.2.2=c.2.2:=hi.re
    have e2:((fk c c.2.2.1 0 c true).1.1,((fk c c.2.2.1 0 c true).1.2.1,(([]:List bE),(([]:List Int),(([]:List QB),((fk c c.2.2.1 0 c true).1.2.2.2.2.2.1,(wrap .i64 ((fk c c.2.2.1 0 c true).1.2.2.2.2.2.2+(length c.2.2.1:Int)))))))))=UC c (fk c c.2.2.1 0 c true).1:=by
     unfold UC
     rw[hre]
    simp only[cond_true]
    rw[e2]
    exact lh (out:=UC c (fk c c.2.2.1 0 c true).1) h (aeo h ho hi hN) (by show(fk c c.2.2.1 0 c true).1.2.2.2.2.2.1=_;rw[hre]) hN hl
end Go.Pv.R
namespace Go.Pv.R
open List Int IntKind
structure Small (c:ax):Prop where
 t10:c.1.length<=10
 tm:∀ x:ak,x∈c.1->x.met.length<=20
 j10:c.2.1.length<=10
 js:∀ x:bc,x∈c.2.1->x.2.2.length<=99
 r10:c.2.2.1.length<=10
 s10:c.2.2.2.1.length<=10
 b10:c.2.2.2.2.1.length<=10
 atv:c.2.2.2.2.2.1.length<=200
theorem na {c:ax} (hc:bY c=true):Small c:=by
 obtain⟨l1,l2⟩:=B' hc;unfold bY at hc;simp only[Bool.and_eq_true,Bool.or_eq_true,decide_eq_true_eq] at hc;obtain⟨ht,hj,hm,_,_,hs,hb,_⟩:=hc;unfold nT at hm;simp only[Bool.and_eq_true,decide_eq_true_eq] at hm;unfold ar at ht;simp only[Bool.and_eq_true,decide_eq_true_eq] at ht;obtain⟨t10,htp,_⟩:=ht;unfold cf at hj;simp only[Bool.and_eq_true,decide_eq_true_eq] at hj;obtain⟨j10,hjp⟩:=hj;rw[iv] at htp hjp;have r10:c.2.2.1.length<=10:=by
  rcases hs with hs |hs
  ·omega
  have hs:gQ c.1 c.2.1 c.2.2.1 c.2.2.2.1=true:=hs.2;unfold gQ at hs;simp only[Bool.and_eq_true,decide_eq_true_eq] at hs;obtain⟨_,_,hs⟩:=hs;rw[iv] at hs;have sP:∀ i,i<c.2.2.1.length->dA c.2.1 (kW c i)≥0/\Ab (c.2.2.2.1.take i) (kW c i)=false:=λi hi=>(by have:=hs i hi;rw[Nat.zero_add] at this;unfold DR at this;simp only[Bool.and_eq_true,decide_eq_true_eq,Bool.not_eq_true'] at this;exact⟨this.1,this.2.1⟩);have hn:c.2.2.2.1.Nodup:=List.pairwise_iff_getElem.2 λi j hi hj Ev e=>(by have h1:=(sP j (by omega)).2;have h2:Ab (c.2.2.2.1.take j) (kW c j)=true:=(by rw[yc];unfold kW;rw[af _ _ hj,←e];exact List.mem_iff_getElem.2 ⟨i,by rw[List.length_take];omega,by rw[List.getElem_take]⟩);rw[h1] at h2;cases h2);have hle:=DY c.2.2.2.1 (c.2.1.map λx:bc=>x.1) hn λx hx=>(by obtain⟨i,hi,rfl⟩:=List.mem_iff_getElem.1 hx;have h1:=(sP i (by omega)).1;unfold kW at h1;rw[af _ _ hi] at h1;obtain⟨k,hk,e,h2,_⟩:=ck (p:=λx:bc=>x.1==c.2.2.2.1[i]) (l:=c.2.1) (by unfold dA at h1;omega);exact List.mem_map.2 ⟨c.2.1[k],List.getElem_mem hk,by simpa using h2⟩);rw[List.length_map] at hle;omega
 refine⟨t10,λx hx=>?_,j10,λx hx=>?_,r10,by omega,by omega,hm.1⟩
 ·obtain⟨i,hi,rfl⟩:=List.mem_iff_getElem.1 hx;have:=htp i hi;unfold qM at this;simp only[Bool.and_eq_true,decide_eq_true_eq] at this;exact this.2.2.2.2.2.1
 obtain⟨i,hi,rfl⟩:=List.mem_iff_getElem.1 hx;have:=hjp i hi;unfold AQ at this;simp only[Bool.and_eq_true,decide_eq_true_eq] at this;exact(aac this.2.2.2).2
theorem Small.okC {c:ax} {N:Nat} (h:Small c) (hN:300<N):bo c N:=by have hx:=aq;obtain⟨h1,h2,h3,h4,h5,h6,h7,h8⟩:=h;exact⟨by omega,λx hx=>by have:=h2 x hx;omega,by omega,by omega,λx hx=>by have:=h4 x hx;omega,by omega,by omega,by omega,by omega,by omega,by omega,by omega,by omega,by omega,by omega,by omega,λx hx=>by have:=h2 x hx;omega,by omega,λx hx=>by have:=h4 x hx;omega⟩
structure Lj (c:ax) (N:Nat):Prop where
 ok:bo c N
 ok':bo c (N - 40)
 tb:c.1.length<=1048576
 tN:c.1.length+1<N
 jb:c.2.1.length<=1048576
 jN:c.2.1.length+1<N
 mN:c.2.2.2.2.2.1.length+1<N
 N2:200<N
theorem Small.evC {c:ax} {N:Nat} (h:Small c) (hN:400<N):Lj c N:=
 ⟨h.okC (by omega),h.okC (by omega),by have:=h.t10;omega,by have:=h.t10;omega,by have:=h.j10;omega,by have:=h.j10;omega,by have:=h.atv;omega,by omega⟩
def onB (b:Bool) (c:ax) (r:ax×Bool):ax×Bool:=bif b then r else(c,false)
def Nl (c out:ax) (eh rE:Int):ax×Bool:=(qN c out eh rE,oo c out eh rE)
def fQ (c:ax) (e:QL):ax×Bool:=bif e.1==1 then onB (decide (c.2.2.1.length=0)) c (Nl c (wg c e.2.1 e.2.2.1) 1 e.2.1) else bif e.1==2 then Nl c (xr c e.2.1 e.2.2.1) 2 e.2.1 else bif e.1==3 then kx c else bif e.1==4 then onB (IP c e.2.2.2 e.2.1 e.2.2.1) c (Nl c (DU c e.2.2.2 e.2.1 e.2.2.1) 4 (F9 c e.2.2.2 e.2.1 e.2.2.1).1) else bif e.1==5 then nV c else bif e.1==6 then onB (HJ c e.2.1) c (Nl c (FD c e.2.1) 6 e.2.1) else(c,false)
theorem aad {b:Bool} {c:ax} {r:ax×Bool} {k:ax->Bool->Option aa}:(bif b then k r.1 r.2 else k c false)=k (onB b c r).1 (onB b c r).2:=by unfold onB;cases b<;>rfl
end Go.Pv.R
namespace Go.Pv.R
open List Int IntKind
end Go.Pv.R
namespace Go.Pv.R
open List Int IntKind
theorem afP (a:List UInt8):(wh a).size=a.length:=by rw[Lib.size_eq,DV]
end Go.Pv.R
namespace Go.Pv.R
open List Int IntKind
theorem apj {s:ByteArray} {i:Nat} (h:i<s.size) (h':i<s.data.toList.length):bt s (i:Int)=((s.data.toList[i]).toNat:Int):=by unfold bt;rw[dif_pos (by simpa using h)];simp only[toNat_natCast];congr 2
theorem alp {s:ByteArray} {i:Nat} {b:UInt8} {r:List UInt8} (h:s.data.toList.drop i=b::r):i<s.size/\bt s (i:Int)=(b.toNat:Int)/\s.data.toList.drop (i+1)=r:=by
 have du:i<s.data.toList.length:=by have:=congrArg length h;simp at this;simp;omega
 have pL:i<s.size:=by rw[Lib.size_eq];exact du
 have h0:=h;rw[List.drop_eq_getElem_cons du] at h;injection h with h1 h2;exact⟨pL,by rw[apj pL du,h1],h2⟩
end Go.Pv.R
namespace Go.Pv.R
open List Int IntKind
end Go.Pv.R
namespace Go.Pv.R
open List Int IntKind
end Go.Pv.R
namespace Go.Pv.R
open List Int IntKind
end Go.Pv.R
namespace Go.Pv.R
open List Int IntKind
end Go.Pv.R
namespace Go.Pv.R
open List Int IntKind
def qd {α:Type} (g:α->Int):List α->Int
 |[]=>0
 |x::r=>g x+qd g r
theorem D0 {α:Type} (g:α->Int):∀ (a b:List α),qd g (a++b)=qd g a+qd g b
 |[],b=>by simp[qd]
 |x::a,b=>by simp only[List.cons_append,qd,D0 g a b];omega
theorem Tu {α:Type} (g:α->Int) (y z:α):∀ (l:List α) (i:Nat),i<l.length->qd g (l.set i y)=qd g l - g (l.getD i z)+g y
 |[],i,h=>by simp at h
 |x::r,0,h=>by simp only[List.set_cons_zero,qd,List.getD_cons_zero];omega
 |x::r,i+1,h=>by simp only[List.set_cons_succ,qd,List.getD_cons_succ];rw[Tu g y z r i (by simpa using h)];omega
theorem Tv {α:Type} {g:α->Int} {M:Int}:∀ (l:List α),(∀ x∈l,0<=g x/\g x<=M)->0<=qd g l/\qd g l<=M*l.length
 |[],h=>by simp[qd]
 |x::r,h=>by have h1:=h x (by simp);have h2:=Tv r λy hy=>h y (by simp[hy]);simp only[qd,List.length_cons];have:M*((r.length+1:Nat):Int)=M*(r.length:Int)+M:=(by rw[Int.natCast_add,Int.mul_add];simp);omega
theorem VV {α:Type} {g:α->Int} {M:Int} (h0:0<=M) (hM:M<=100000):∀ (l:List α) (i:Nat) (s:Int),(∀ x∈l,0<=g x/\g x<=M)->l.length<=100->0<=s->s<=1000000000->foldI (λ_ x s=>wrap .i64 (s+g x)) l i s=s+qd g l∨1000000000<s+M*l.length
 |[],i,s,h,hl,h1,h2=>.inl (by simp[foldI,qd])
 |x::r,i,s,h,hl,h1,h2=>by
  have hx:=h x (by simp);have hb:M*((r.length+1:Nat):Int)=M*(r.length:Int)+M:=(by rw[Int.natCast_add,Int.mul_add];simp);simp only[foldI,qd,List.length_cons] at*;by_cases hs:1000000000<s+M*((r.length+1:Nat):Int)
  ·exact .inr hs
  have hp:0<=M*(r.length:Int):=Int.mul_nonneg h0 (by omega);rw[wrap64 (by omega) (by omega)];rcases VV h0 hM r (i+1) (s+g x) (λy hy=>h y (by simp[hy])) (by omega) (by omega) (by omega) with e |e
  ·left;rw[e];omega
  omega
theorem O' {α:Type} {g:α->Int} {M:Int} (h0:0<=M) (hM:M<=100000) {l:List α} (h:∀ x∈l,0<=g x/\g x<=M) (hl:l.length<=100):foldI (λ_ x s=>wrap .i64 (s+g x)) l 0 0=qd g l:=by
 rcases VV h0 hM l 0 0 h hl (by omega) (by omega) with e |e
 ·rw[e];omega
 have:M*(l.length:Int)<=100000*100:=Int.mul_le_mul hM (by omega) (by omega) (by omega);omega
def Tw (x:ak):Int:=(x.met.length:Int)
structure Fair (t:List ak):Prop where
 nd:∀ x:ak,x∈t->x.met.Nodup
 df:∀ x y:ak,x∈t->y∈t->y.1∈x.met->x.2.1≠y.2.1
 w:2*qd (λx:ak=>x.2.2.1) t=qd Tw t
 f:2*qd (λx:ak=>x.2.2.2.2.1) t=qd Tw t
structure ajl (t:List ak) (x:ak):Prop where
 w:0<=x.2.2.1/\x.2.2.1<=x.met.length
 f:0<=x.2.2.2.2.1/\x.2.2.2.2.1<=x.met.length
 p:0<=x.2.2.2.1/\x.2.2.2.1<=100000
 m:x.met.length<=20
 s:∀ id,id∈x.met->id≠x.1/\∃ y:ak,y∈t/\y.1=id/\x.1∈y.met
theorem IV {t:List ak} (h:ar t=true) {x:ak} (hx:x∈t):ajl t x:=by
 have hm:=aq;unfold ar at h;simp only[Bool.and_eq_true,decide_eq_true_eq] at h;obtain⟨_,h1,h2⟩:=h;rw[iv] at h1 h2;have m20:∀ y:ak,y∈t->y.met.length<=20:=λy hy=>by obtain⟨i,hi,rfl⟩:=List.mem_iff_getElem.1 hy;have:=h1 i hi;unfold qM at this;simp only[Bool.and_eq_true,decide_eq_true_eq] at this;exact this.2.2.2.2.2.1
 obtain⟨i,hi,rfl⟩:=List.mem_iff_getElem.1 hx;have a:=h1 i hi;have b:=h2 i hi;unfold qM at a;simp only[Bool.and_eq_true,decide_eq_true_eq,uX] at a;rw[List.all_eq_true] at b;refine⟨a.2.2.1,a.2.2.2.1,a.2.2.2.2.1,a.2.2.2.2.2.1,λid hid=>?_⟩;have c:=b id hid;unfold Ux at c;simp only[Bool.and_eq_true,Bool.not_eq_true',decide_eq_false_iff_not,beq_eq_false_iff_ne,beq_iff_eq] at c;obtain⟨c1,c2,c3⟩:=c;refine⟨c2,?_⟩;obtain⟨k,hk,e,h3,_⟩:=ck (p:=λx:ak=>x.1==id) (l:=t) (by unfold au at c1;omega);have e:au t id=(k:Int):=e;rw[e,toNat_natCast,af _ _ hk] at c3;rw[IL (by have:=m20 _ hx;omega),IL (by have:=m20 _ (List.getElem_mem hk);omega)] at c3;refine⟨t[k],List.getElem_mem hk,by simpa using h3,?_⟩;have:0<List.count id (t[i].met):=List.count_pos_iff.2 hid;exact List.count_pos_iff.1 (by omega)
theorem D1 {t:List ak} (h:ar t=true) {x y:ak} (hx:x∈t) (hy:y∈t) (e:x.1=y.1):x=y:=by
 have hn:=yd h;obtain⟨i,hi,rfl⟩:=List.mem_iff_getElem.1 hx;obtain⟨j,hj,rfl⟩:=List.mem_iff_getElem.1 hy;have:=(List.nodup_iff_pairwise_ne.1 hn);by_cases Ev:i=j
 ·subst Ev;rfl
 exfalso;have hp:=List.pairwise_iff_getElem.1 hn;unfold uU at hp;rcases Nat.lt_or_gt_of_ne Ev with du |du
 ·exact hp i j (by simpa using hi) (by simpa using hj) du (by simpa using e)
 exact hp j i (by simpa using hj) (by simpa using hi) du (by simpa using e.symm)
def Clean (t:List ak) (a b:Int):Prop:=a≠b/\∀ x y:ak,x∈t->y∈t->x.1=a->y.1=b->b∉x.met/\a∉y.met/\x.2.1≠y.2.1
theorem aep {t:List ak} {a b d p q:Int} (h:ar t=true) (ha:au t a≥0) (hb:au t b≥0) (G6:a≠b):∃ (i j:Nat) (hi:i<t.length) (hj:j<t.length),i≠j/\t[i].1=a/\t[j].1=b/\GK t a b d p q=(t.set i (FH t i b d p)).set j (u6 t j a d q):=by
 obtain⟨i,hi,e1,h1,_⟩:=ck (p:=λx:ak=>x.1==a) (l:=t) (by unfold au at ha;omega);obtain⟨j,hj,e2,h2,_⟩:=ck (p:=λx:ak=>x.1==b) (l:=t) (by unfold au at hb;omega);have e1:au t a=(i:Int):=e1;have e2:au t b=(j:Int):=e2;refine⟨i,j,hi,hj,λe=>?_,by simpa using h1,by simpa using h2,?_⟩
 ·subst e;have h1:t[i].1=a:=by simpa using h1
  have h2:t[i].1=b:=(by simpa using h2);exact G6 (h1.symm.trans h2)
 unfold GK two;rw[e1,e2,toNat_natCast,toNat_natCast]
theorem D2 {t:List ak} {a b d p q:Int} (h:ar t=true) (ha:au t a≥0) (hb:au t b≥0) (G6:a≠b) {x:ak} (hx:x∈GK t a b d p q): ∃ y:ak,y∈t/\x.1=y.1/\x.2.1=y.2.1/\((x.met=y.met/\x.1≠a/\x.1≠b)∨(y.1=a/\x.met=y.met++[b])∨(y.1=b/\x.met=y.met++[a])):=by
 obtain⟨i,j,hi,hj,Ev,hia,hjb,e⟩:=aep (d:=d) (p:=p) (q:=q) h ha hb G6;rw[e] at hx;obtain⟨k,hk,rfl⟩:=List.mem_iff_getElem.1 hx;have mc:k<t.length:=by simpa using hk
 rw[List.getElem_set];by_cases Wy:j=k
 ·subst Wy;rw[if_pos rfl];refine⟨t[j],List.getElem_mem hj,?_,?_,.inr (.inr ⟨hjb,?_⟩)⟩<;>unfold u6<;>rw[af _ _ hj]
 rw[if_neg Wy,List.getElem_set];by_cases hik:i=k
 ·subst hik;rw[if_pos rfl];refine⟨t[i],List.getElem_mem hi,?_,?_,.inr (.inl ⟨hia,?_⟩)⟩<;>unfold FH<;>rw[af _ _ hi]
 rw[if_neg hik];refine⟨t[k],List.getElem_mem mc,rfl,rfl,.inl ⟨rfl,λe=>?_,λe=>?_⟩⟩
 ·have:=D1 h (List.getElem_mem mc) (List.getElem_mem hi) (e.trans hia.symm);have hp:=List.pairwise_iff_getElem.1 (yd h);unfold uU at hp;rcases Nat.lt_or_gt_of_ne hik with du |du
  ·exact hp i k (by simpa using hi) (by simpa using mc) du (by simp[this])
  exact hp k i (by simpa using mc) (by simpa using hi) du (by simp[this])
 have:=D1 h (List.getElem_mem mc) (List.getElem_mem hj) (e.trans hjb.symm);have hp:=List.pairwise_iff_getElem.1 (yd h);unfold uU at hp;rcases Nat.lt_or_gt_of_ne Wy with du |du
 ·exact hp j k (by simpa using hj) (by simpa using mc) du (by simp[this])
 exact hp k j (by simpa using mc) (by simpa using hj) du (by simp[this])
theorem Tx {t:List ak} {a b d p q:Int} {g:ak->Int} {n:Int} (h:ar t=true) (ha:au t a≥0) (hb:au t b≥0) (G6:a≠b) (hg:∀ (i j:Nat),i<t.length->j<t.length->g (FH t i b d p)+g (u6 t j a d q)=g (t.getD i an)+g (t.getD j an)+n):qd g (GK t a b d p q)=qd g t+n:=by obtain⟨i,j,hi,hj,Ev,hia,hjb,e⟩:=aep (d:=d) (p:=p) (q:=q) h ha hb G6;have:=hg i j hi hj;rw[e,Tu g _ an _ _ (by simpa using hj),Tu g _ an _ _ hi,Tq Ev];omega
theorem afQ {t:List ak} {a b d p q:Int} (h:ar t=true) (ha:au t a≥0) (hb:au t b≥0) (hd:d=1∨d=2) (hc:Clean t a b) (hF:Fair t):Fair (GK t a b d p q):=by
 obtain⟨G6,hc⟩:=hc;have ajm:∀ i,i<t.length->((t.getD i an).met.length<=20)/\(0<=(t.getD i an).2.2.1/\(t.getD i an).2.2.1<=20)/\(0<=(t.getD i an).2.2.2.2.1/\(t.getD i an).2.2.2.2.1<=20):=λi hi=>by have:=IV h (x:=t.getD i an) (by rw[af _ _ hi];exact List.getElem_mem hi);have h1:=this.w;have h2:=this.f;have h3:=this.m;omega
 refine⟨λx hx=>?_,λx y hx hy Of=>?_,?_,?_⟩
 ·obtain⟨u,hu,e1,e2,e3⟩:=D2 h ha hb G6 hx;obtain⟨z1,Wt,f1⟩:∃ z∈t,z.1=a:=⟨_,(jg ha).1,(jg ha).2⟩;obtain⟨z2,hz2,f2⟩:∃ z∈t,z.1=b:=⟨_,(jg hb).1,(jg hb).2⟩;have hn:=hF.nd u hu;rcases e3 with⟨e3,_⟩ |⟨e3,e4⟩ |⟨e3,e4⟩
  ·rw[e3];exact hn
  ·rw[e4];have:=(hc u z2 hu hz2 e3 f2).1;exact List.nodup_append.2 ⟨hn,by simp,λc hc' d hd e=>by simp at hd;subst hd;subst e;exact this hc'⟩
  rw[e4];have:=(hc z1 u Wt hu f1 e3).2.1;exact List.nodup_append.2 ⟨hn,by simp,λc hc' d hd e=>by simp at hd;subst hd;subst e;exact this hc'⟩
 ·obtain⟨u,hu,e1,e2,e3⟩:=D2 h ha hb G6 hx;obtain⟨v,hv,f1,f2,_⟩:=D2 h ha hb G6 hy;rw[e2,f2];rw[f1] at Of;rcases e3 with⟨e3,_⟩ |⟨e3,e4⟩ |⟨e3,e4⟩
  ·exact hF.df u v hu hv (by rw[←e3];exact Of)
  ·rw[e4,List.mem_append,List.mem_singleton] at Of;rcases Of with Of |Of
   ·exact hF.df u v hu hv Of
   exact(hc u v hu hv e3 Of).2.2
  rw[e4,List.mem_append,List.mem_singleton] at Of;rcases Of with Of |Of
  ·exact hF.df u v hu hv Of
  exact λe=>(hc v u hv hu Of e3).2.2 e.symm
 all_goals
  have hm:qd Tw (GK t a b d p q)=qd Tw t+2:=Tx h ha hb G6 λi j hi hj=>by
   show(((t.getD i an).2.2.2.2.2++[b]).length:Int)+(((t.getD j an).2.2.2.2.2++[a]).length:Int)=((t.getD i an).2.2.2.2.2.length:Int)+((t.getD j an).2.2.2.2.2.length:Int)+2
   simp only[List.length_append,List.length_cons,List.length_nil]
   omega
  rw[hm]
 ·rw[Tx (g:=λx:ak=>x.2.2.1) (n:=1) h ha hb G6 λi j hi hj=>by
   have h1:=ajm i hi
   have h2:=ajm j hj
   show(bif d==1 then wrap .i64 ((t.getD i an).2.2.1+1) else(t.getD i an).2.2.1)+(bif d==1 then(t.getD j an).2.2.1 else wrap .i64 ((t.getD j an).2.2.1+1))=(t.getD i an).2.2.1+(t.getD j an).2.2.1+1
   rw[wrap64 (by omega) (by omega),wrap64 (by omega) (by omega)]
   cases d==1<;>simp<;>omega]
  have:=hF.w;omega
 rw[Tx (g:=λx:ak=>x.2.2.2.2.1) (n:=1) h ha hb G6 λi j hi hj=>by
  have h1:=ajm i hi
  show wrap .i64 ((t.getD i an).2.2.2.2.1+1)+(t.getD j an).2.2.2.2.1=(t.getD i an).2.2.2.2.1+(t.getD j an).2.2.2.2.1+1
  rw[wrap64 (by omega) (by omega)]
  omega]
 have:=hF.f;omega
theorem acA {t:List ak} {a b d p q a' b':Int} (h:ar t=true) (ha:au t a≥0) (hb:au t b≥0) (G6:a≠b) (h1:a'≠a/\a'≠b) (h2:b'≠a/\b'≠b) (hc:Clean t a' b'):Clean (GK t a b d p q) a' b':=by
 refine⟨hc.1,λx y hx hy ex ey=>?_⟩;obtain⟨u,hu,e1,e2,e3⟩:=D2 h ha hb G6 hx;obtain⟨v,hv,f1,f2,f3⟩:=D2 h ha hb G6 hy;have:=hc.2 u v hu hv (e1.symm.trans ex) (f1.symm.trans ey);have e4:x.met=u.met:=by
  rcases e3 with e3 |e3 |e3
  ·exact e3.1
  ·exact absurd (ex.symm.trans (e1.trans e3.1)) h1.1
  exact absurd (ex.symm.trans (e1.trans e3.1)) h1.2
 have f4:y.met=v.met:=by
  rcases f3 with f3 |f3 |f3
  ·exact f3.1
  ·exact absurd (ey.symm.trans (f1.trans f3.1)) h2.1
  exact absurd (ey.symm.trans (f1.trans f3.1)) h2.2
 rw[e4,f4,e2,f2];exact this
theorem UD {t:List ak} {a b:Int} (h:dQ t a b=true):Clean t a b:=by
 obtain⟨hT,_,_,G6⟩:=qb h;unfold dQ at h;simp only[Bool.and_eq_true,decide_eq_true_eq,Bool.not_eq_true',bne_iff_ne,ne_eq] at h;obtain⟨_,ha,hb,_,rX,hm⟩:=h;refine⟨G6,λx y hx hy ex ey=>?_⟩;have fx:(t.getD (au t a).toNat an)=x:=D1 hT (jg ha).1 hx ((jg ha).2.trans ex.symm);have fy:(t.getD (au t b).toNat an)=y:=D1 hT (jg hb).1 hy ((jg hb).2.trans ey.symm);unfold DO asp at hm;unfold P9 at rX;rw[fx,fy] at rX;rw[fx,decide_eq_true ha,Bool.true_and] at hm;have h1:b∉x.met:=λhc=>by have:=yc.2 hc;rw[hm] at this;cases this
 refine⟨h1,λhc=>?_,rX⟩;obtain⟨_,z,hz,ez,hz2⟩:=(IV hT hy).s a hc;have:z=x:=D1 hT hz hx (ez.trans ex.symm);subst this;rw[ey] at hz2;exact h1 hz2
theorem afR {t:List ak} {r:List cW} (h:lJ t r=true):(gP r).Nodup:=by
 unfold lJ at h;rw[Bool.and_eq_true,List.all_eq_true,List.all_eq_true] at h;cases r with
 |nil=>simp[gP]
 |cons p r=>
 have hT:=(qb (h.1 p (by simp))).1;refine((ZO (yd hT) λx hx=>?_).1 λx hx=>?_).1
 ·unfold gP at hx;obtain⟨q,hq,hx⟩:=List.mem_flatMap.1 hx;obtain⟨_,h1,h2,_⟩:=qb (h.1 q hq);simp at hx;rcases hx with rfl |rfl
  ·exact h1
  exact h2
 obtain⟨y,hy,rfl⟩:=List.mem_map.1 hx;have:=h.2 y hy;simpa using this
theorem Qb {c:ax}:∀ (r:List cW) (i:Nat) (s:ax) (ok:Bool),Fair s.1->(∀ p∈r,Clean s.1 p.1 p.2)->(gP r).Nodup->(fk c r i s ok).2=true->Fair (fk c r i s ok).1.1
 |[],i,s,ok,hF,_,_,_=>hF
 |x::r,i,s,ok,hF,hC,hN,ho=>by
  unfold fk at ho ⊢;cases hb:J5 c i x s with
  |false=>rw[hb,Bool.and_false,FJ] at ho;cases ho
  |true=>
  rw[hb] at ho;have hb2:=hb;unfold J5 at hb2;have hf:=Lg hb2;have hT:ar s.1=true:=(by have:=hb2;unfold HS Tr at this;simp only[Bool.and_eq_true] at this;exact this.1.1);have hx:=hC x (by simp);have e:(HU c i x s).1=GK s.1 x.1 x.2 (ofM (DZ c i)) (DZ c i).2.1 (DZ c i).2.2:=(by show Tt _ _ _ _ _ _=_;unfold Tt;rw[hb2];rfl);have hN':x.1∉gP r/\x.2∉gP r/\(gP r).Nodup:=(by have:gP (x::r)=[x.1,x.2]++gP r:=rfl;rw[this] at hN;have:=List.nodup_append.1 hN;exact⟨λh=>this.2.2 x.1 (by simp) x.1 h rfl,λh=>this.2.2 x.2 (by simp) x.2 h rfl,this.2.1⟩);refine Qb r (i+1) _ _ ?_ (λp hp=>?_) hN'.2.2 ho
  ·rw[e];exact afQ hT hf.1 hf.2 (O9 _) hx hF
  rw[e];have h1:p.1∈gP r:=List.mem_flatMap.2 ⟨p,hp,by simp⟩;have h2:p.2∈gP r:=List.mem_flatMap.2 ⟨p,hp,by simp⟩;exact acA hT hf.1 hf.2 hx.1 ⟨λe=>hN'.1 (e▸h1),λe=>hN'.2.1 (e▸h1)⟩ ⟨λe=>hN'.1 (e▸h2),λe=>hN'.2.1 (e▸h2)⟩ (hC p (by simp[hp]))
structure Good (c:ax):Prop where
 cl:bY c=true
 fa:Fair c.1
 mi:(HD c.2.2.2.2.2.1:Int)=c.2.2.2.2.2.2+c.2.2.2.2.1.length - (aX c).length
structure apk (c:ax):Prop where
 t:ar c.1=true
 j:cf c.2.1=true
 m:nT c.2.2.2.2.2.1=true
 sl:c.2.2.2.1.length=c.2.2.1.length
 bl:c.2.2.2.2.1.length=c.2.2.1.length
 ro:c.2.2.1.length=0∨(lJ c.1 c.2.2.1=true/\gQ c.1 c.2.1 c.2.2.1 c.2.2.2.1=true)
 ba:allI (uV c) c.2.2.2.2.1 0=true
 pl:0<=c.2.2.2.2.2.2/\c.2.2.2.2.2.2<=1000
 tw:AR c.1=c.2.2.2.2.2.2
theorem u7 {c:ax} (h:bY c=true):apk c:=by unfold bY at h;simp only[Bool.and_eq_true,Bool.or_eq_true,decide_eq_true_eq,uX,beq_iff_eq] at h;exact⟨h.1,h.2.1,h.2.2.1,h.2.2.2.1,h.2.2.2.2.1,h.2.2.2.2.2.1,h.2.2.2.2.2.2.1,h.2.2.2.2.2.2.2.1,h.2.2.2.2.2.2.2.2⟩
theorem afS (l:List GI) (eh rE:Int):HD (l++[S5 l eh rE])=HD l+(bif eh==4 then 1 else 0):=by unfold HD;rw[List.filter_append,List.length_append];congr 1;show(List.filter _ [((l.length:Int)+1,(eh,(rE,_)))]).length=_;simp only[List.filter_cons,List.filter_nil];cases eh==4<;>rfl
theorem xu {c out:ax} {eh rE:Int} (h:Good c) (ho:bY (B9 out (c.2.2.2.2.2.1++[S5 c.2.2.2.2.2.1 eh rE]))=true->Fair out.1/\c.2.2.2.2.2.2+c.2.2.2.2.1.length - (aX c).length+(bif eh==4 then 1 else 0)=out.2.2.2.2.2.2+out.2.2.2.2.1.length - (aX out).length):Good (qN c out eh rE):=by
 unfold qN;cases hd:oo c out eh rE with
 |false=>exact h
 |true=>rw[cond_true];unfold oo at hd;simp only[Bool.and_eq_true] at hd;obtain⟨h1,_,h2⟩:=hd;unfold xp at*;rw[h1,cond_true] at*;obtain⟨h3,h4⟩:=ho h2;refine⟨h2,h3,?_⟩;show(HD (c.2.2.2.2.2.1++[S5 c.2.2.2.2.2.1 eh rE]):Int)=out.2.2.2.2.2.2+out.2.2.2.2.1.length - (aX out).length;rw[afS,←h4,←h.mi];cases eh==4<;>simp
theorem afT {c:ax} {id cg:Int} (h:Good c) (ht:ar (wg c id cg).1=true):Fair (wg c id cg).1:=by
 have Hc:=ZV ht;have hf:=h.fa;have e:(wg c id cg).1=c.1.take (AS c.1 id)++[afF id cg]++c.1.drop (AS c.1 id):=rfl;have hs:∀ g:ak->Int,g (afF id cg)=0->qd g (wg c id cg).1=qd g c.1:=λg hg=>by have h1:=D0 g (c.1.take (AS c.1 id)) (c.1.drop (AS c.1 id));rw[List.take_append_drop] at h1;rw[e,D0,D0,h1];simp only[qd,hg];omega
 have old:∀ x:ak,x∈c.1->id∉x.met:=λx hx hc=>by obtain⟨_,y,hy,ey,_⟩:=(IV (u7 h.cl).t hx).s id hc;obtain⟨i,hi,rfl⟩:=List.mem_iff_getElem.1 hy;have:=(IK (p:=λx:ak=>x.1==id) Hc).2 i hi;simp[ey] at this
 refine⟨λx hx=>?_,λx y hx hy Of=>?_,?_,?_⟩
 ·rw[e] at hx;rcases S7 hx with hx |rfl
  ·exact hf.nd x hx
  exact List.nodup_nil
 ·rw[e] at hx hy;rcases S7 hx with hx |rfl
  ·rcases S7 hy with hy |rfl
   ·exact hf.df x y hx hy Of
   exact absurd Of (old x hx)
  cases Of
 ·rw[hs _ rfl,hs _ rfl];exact hf.w
 rw[hs _ rfl,hs _ rfl];exact hf.f
theorem acB {c:ax} {id:Int} (h:Good c) (hm:HJ c id=true):Fair (FD c id).1:=by
 have hf:=h.fa;unfold HJ at hm;simp only[Bool.and_eq_true,decide_eq_true_eq] at hm;obtain⟨h1,_,h3⟩:=hm;have hk:=(lI (l:=c.1) (id:=id) h1).2;have e:(FD c id).1=c.1.take (au c.1 id).toNat++c.1.drop ((au c.1 id).toNat+1):=rfl;have yI:∀ x:ak,x∈(FD c id).1->x∈c.1:=λx hx=>by
  rw[e,List.mem_append] at hx;rcases hx with hx |hx
  ·exact List.mem_of_mem_take hx
  exact List.mem_of_mem_drop hx
 have ht:=IV (u7 h.cl).t (x:=c.1.getD (au c.1 id).toNat an) (by rw[af _ _ hk];exact List.getElem_mem hk);have h3':(ak.met (c.1.getD (au c.1 id).toNat an)).length=0:=h3;have hs:∀ g:ak->Int,g (c.1.getD (au c.1 id).toNat an)=0->qd g (FD c id).1=qd g c.1:=λg hg=>by have h1:=D0 g (c.1.take (au c.1 id).toNat) (c.1.drop (au c.1 id).toNat);rw[List.take_append_drop,List.drop_eq_getElem_cons hk] at h1;rw[af _ _ hk] at hg;rw[e,D0,h1];simp only[qd,hg];omega
 have e1:Tw (c.1.getD (au c.1 id).toNat an)=0:=by unfold Tw;omega
 have w1:=ht.w;have f1:=ht.f;refine⟨λx hx=>hf.nd x (yI x hx),λx y hx hy=>hf.df x y (yI x hx) (yI y hy),?_,?_⟩
 ·rw[hs _ e1,hs _ (by omega)];exact hf.w
 rw[hs _ e1,hs _ (by omega)];exact hf.f
theorem J6 {α β:Type} {c:Nat->α->Bool} {f:Nat->α->β} {p:α->Bool} (hc:∀ i x,c i x=p x):∀ (l:List α) (i:Nat),(gO c f l i).length=(l.filter p).length
 |[],_=>rfl
 |x::r,i=>by simp only[gO,hc,List.filter_cons];cases p x<;>simp[J6 hc r]
theorem HV (c:ax):(aX c).length=(c.2.2.2.2.1.filter qc).length:=J6 (p:=qc) (λ_ _=>rfl) _ _
theorem Tz {α:Type} {p:α->Bool} {y z:α}:∀ (l:List α) (i:Nat),i<l.length->p (l.getD i z)=true->p y=false->((l.set i y).filter p).length+1=(l.filter p).length
 |[],i,h,_,_=>by simp at h
 |x::r,0,h,h1,h2=>by simp only[List.getD_cons_zero] at h1;simp only[List.set_cons_zero,List.filter_cons,h1,h2];simp
 |x::r,i+1,h,h1,h2=>by simp only[List.getD_cons_succ] at h1;have:=Tz (y:=y) r i (by simpa using h) h1 h2;simp only[List.set_cons_succ,List.filter_cons];cases p x<;>simp<;>omega
theorem aae {b:l7} (h:cS b=true):qc b=false:=by unfold cS at h;simp only[Bool.and_eq_true,uX] at h;unfold qc;rw[decide_eq_false (show ¬(b.1:Int)=0 by omega)];rfl
theorem acC {c:ax} (h:Good c) (hm:A3 c=true) (hk:(fk c c.2.2.1 0 c true).2=true):Fair (fk c c.2.2.1 0 c true).1.1:=by unfold A3 at hm;simp only[Bool.and_eq_true,decide_eq_true_eq] at hm;obtain⟨hc,hr,_⟩:=hm;have hR:=((u7 hc).ro.resolve_left hr).1;have lP:=hR;unfold lJ at lP;rw[Bool.and_eq_true,List.all_eq_true] at lP;exact Qb c.2.2.1 0 c true h.fa (λp hp=>UD (lP.1 p hp)) (afR hR) hk
theorem TA {b:Bool} {c:ax} {r:ax×Bool} (h:Good c) (hr:b=true->Good r.1):Good (onB b c r).1:=by
 unfold onB;cases b with
 |false=>exact h
 |true=>exact hr rfl
theorem Cc {c:ax} (h:Good c) (e:QL):Good (fQ c e).1:=by
 have hI:=u7 h.cl
 unfold fQ
 cases e.1==1
 rotate_left
 ·exact TA h λ_=>xu h λho=>⟨afT h (u7 ho).t,by show _+_ - _+0=c.2.2.2.2.2.2+c.2.2.2.2.1.length - (aX c).length;omega⟩
 cases e.1==2
 rotate_left
 ·exact xu h λho=>⟨h.fa,by show _+_ - _+0=c.2.2.2.2.2.2+c.2.2.2.2.1.length - (aX c).length;omega⟩
 cases e.1==3
 rotate_left
 ·show Good (kx c).1
  unfold kx
  cases yQ c.1 with
  |none=>exact h
  |some ps=>
   simp only[]
   cases u5 c.1 c.2.1 ps with
   |none=>exact h
   |some ss=>
    cases hp:xO c with
    |false=>exact h
    |true=>
     refine xu h λho=>⟨h.fa,?_⟩
     unfold xO at hp
     simp only[Bool.and_eq_true,decide_eq_true_eq] at hp
     have hb:=hI.bl
     have hw:=IM c
     have BF:(aX (Qa c ps ss)).length=ps.length:=by
      rw[HV]
      show((List.replicate ps.length ((0:Int),((0:Int),(0:Int)))).filter qc).length=_
      rw[List.filter_eq_self.2 (λx hx=>by rw[List.eq_of_mem_replicate hx];rfl),List.length_replicate]
     have hl:(Qa c ps ss).2.2.2.2.1.length=ps.length:=List.length_replicate
     have hpl:(Qa c ps ss).2.2.2.2.2.2=c.2.2.2.2.2.2:=rfl
     rw[BF,hl,hpl]
     show _+_ - _+0=_
     omega
 cases e.1==4
 rotate_left
 ·refine TA h λhm=>xu h λho=>⟨h.fa,?_⟩
  unfold IP at hm
  simp only[Bool.and_eq_true,decide_eq_true_eq] at hm
  obtain⟨_,⟨m1,m2⟩,m3,m4⟩:=hm
  have hb:=hI.bl
  have hf:=Tz (p:=qc) (y:=F9 c e.2.2.2 e.2.1 e.2.2.1) (z:=oO) c.2.2.2.2.1 e.2.2.2.toNat (by omega) m3 (aae m4)
  have hw:(aX (DU c e.2.2.2 e.2.1 e.2.2.1)).length+1=(aX c).length:=by rw[HV,HV];exact hf
  have hl:(DU c e.2.2.2 e.2.1 e.2.2.1).2.2.2.2.1.length=c.2.2.2.2.1.length:=List.length_set
  have hpl:(DU c e.2.2.2 e.2.1 e.2.2.1).2.2.2.2.2.2=c.2.2.2.2.2.2:=rfl
  rw[hl,hpl]
  show _+_ - _+1=_
  omega
 cases e.1==5
 rotate_left
 ·show Good (nV c).1
  unfold nV
  cases hm:A3 c with
  |false=>exact h
  |true=>
   cases hk:(fk c c.2.2.1 0 c true).2 with
   |false=>exact h
   |true=>
    refine xu h λho=>⟨acC h hm hk,?_⟩
    unfold A3 at hm
    simp only[Bool.and_eq_true,decide_eq_true_eq] at hm
    obtain⟨_,_,hw⟩:=hm
    have hb:=hI.bl
    have hp:=hI.pl
    have hN:=h.mi
    have r10:=(na h.cl).r10
    have h1:(UC c (fk c c.2.2.1 0 c true).1).2.2.2.2.2.2=c.2.2.2.2.2.2+(length c.2.2.1:Int):=by
     show wrap .i64 (c.2.2.2.2.2.2+(length c.2.2.1:Int))=_
     exact wrap64 (by omega) (by omega)
    have h2:(UC c (fk c c.2.2.1 0 c true).1).2.2.2.2.1.length=0:=rfl
    have h3:(aX (UC c (fk c c.2.2.1 0 c true).1)).length=0:=rfl
    rw[h1,h2,h3]
    show _+_ - _+0=_
    omega
 cases e.1==6
 rotate_left
 ·exact TA h λhm=>xu h λho=>⟨acB h hm,by show _+_ - _+0=c.2.2.2.2.2.2+c.2.2.2.2.1.length - (aX c).length;omega⟩
 ·exact h
theorem acD {c:ax} (h:Good c):Fz c=true/\FA c=true/\MT c=true/\MV c=true/\bY c=true:=by
 have hI:=u7 h.cl;have hS:=na h.cl;have t10:=hS.t10;refine⟨?_,?_,?_,?_,h.cl⟩
 ·unfold Fz;rw[List.all_eq_true];exact λx hx=>decide_eq_true (h.fa.nd x hx)
 ·unfold FA;rcases hI.ro with h0 |⟨_,hs⟩
  ·rw[List.length_eq_zero_iff.1 h0];rfl
  unfold gQ at hs;simp only[Bool.and_eq_true,decide_eq_true_eq] at hs;obtain⟨_,_,hs⟩:=hs;rw[iv] at hs ⊢;intro i hi;have:=hs i hi;rw[Nat.zero_add] at this ⊢;unfold DR at this;simp only[Bool.and_eq_true,decide_eq_true_eq] at this;unfold ai3;rw[af _ _ hi] at this;simp only[Bool.and_eq_true,decide_eq_true_eq];exact⟨by have:=hI.sl;omega,this.1,this.2.2⟩
 ·unfold MT;simp only[Bool.and_eq_true,decide_eq_true_eq,uX];exact⟨hI.m,hI.pl,h.mi⟩
 have hT:∀ x:ak,x∈c.1->ajl c.1 x:=λx hx=>IV hI.t hx;have s1:S4 (λx=>x.2.2.1) c.1=qd (λx:ak=>x.2.2.1) c.1:=O' (M:=20) (by omega) (by omega) (λx hx=>by have h1:=(hT x hx).w;have h2:=(hT x hx).m;omega) (by omega);have s2:S4 (λx=>x.2.2.2.2.1) c.1=qd (λx:ak=>x.2.2.2.2.1) c.1:=O' (M:=20) (by omega) (by omega) (λx hx=>by have h1:=(hT x hx).f;have h2:=(hT x hx).m;omega) (by omega);have s3:S4 (λx:ak=>(x.met.length:Int)) c.1=qd Tw c.1:=O' (g:=Tw) (M:=20) (by omega) (by omega) (λx hx=>by have h2:=(hT x hx).m;unfold Tw;omega) (by omega);have b3:=Tv (g:=Tw) (M:=20) c.1 λx hx=>by have h2:=(hT x hx).m;unfold Tw;omega
 have m1:(20:Int)*c.1.length<=20*10:=Int.mul_le_mul_of_nonneg_left (by omega) (by omega);have hw:=h.fa.w;have hf:=h.fa.f;unfold MV;rw[s1,s2,s3,hI.t,wrap64 (by omega) (by omega),wrap64 (by omega) (by omega),hw,hf];simp
end Go.Pv.R
namespace Go.Pv.R
open List Int IntKind
abbrev Uf:=jX
def u9 (c:Uf):Prop:=0<=c.2.1/\c.1.length<=1048576
def TB {α:Type} (F:Uf->(α->Uf->Option aa)->Option aa) (P:α->Prop):Prop:=∀ c:Uf,u9 c->∃ v,∃ c':Uf,u9 c'/\P v/\∀ kf,F c kf=kf v c'
theorem ajn (x:BitVec (IntKind.bits .i64)):0<=wrap .i64 (BitVec.toNat (x&&&BitVec.ofInt (IntKind.bits .i64) (255:Int)))/\wrap .i64 (BitVec.toNat (x&&&BitVec.ofInt (IntKind.bits .i64) (255:Int)))<=255:=by
 have h:BitVec.toNat (x&&&BitVec.ofInt (IntKind.bits .i64) (255:Int))<=255:=by rw[BitVec.toNat_and];refine Nat.le_trans Nat.and_le_right ?_;decide
 rw[wrap64 (by omega) (by omega)];omega
theorem Xo {N:Nat}:TB (pX N) λv=>0<=v/\v<=255:=λc hc=>by
 obtain⟨hc,hl⟩:=hc;unfold pX share;rw[decide_eq_true (show(0:Int)<=33 by omega),decide_eq_true (show(0:Int)<=47 by omega)];simp only[cond_true];by_cases hi:c.2.1<(length c.1:Int)
 ·have gl:aD c.2.1 (length c.1)=true:=(by have:=ai (i:=c.2.1.toNat) (m:=c.1.length) (by omega);rwa [Int.toNat_of_nonneg hc] at this);rw[decide_eq_true hi,gl];simp only[cond_true];refine⟨_,(c.1,(wrap .i64 (c.2.1+1),_)),⟨?_,hl⟩,ajn _,λkf=>rfl⟩;show 0<=wrap .i64 (c.2.1+1);rw[wrap64 (by omega) (by omega)];omega
 rw[decide_eq_false hi];simp only[cond_false];exact⟨_,(c.1,(c.2.1,wrap .i64 (wrap .i64 (c.2.2*(6364136223846793005:Int))+(1442695040888963407:Int)))),⟨hc,hl⟩,ajn _,λkf=>rfl⟩
theorem alq {r n:Int} (hr:0<=r) (hn:0<n):0<=Int.tmod r n/\Int.tmod r n<n:=by rw[Int.tmod_eq_emod_of_nonneg hr];exact⟨Int.emod_nonneg _ (by omega),Int.emod_lt_of_pos _ hn⟩
theorem xP {N:Nat} {n:Int} (h0:0<n) (h1:n<=256):TB (λc kf=>b7 N c n kf) λv=>0<=v/\v<n:=λc hc=>by obtain⟨v,c',h2,h3,h4⟩:=Xo (N:=N) c hc;refine⟨Int.tmod v n,c',h2,alq h3.1 h0,λkf=>?_⟩;show b7 N c n kf=_;unfold b7;rw[decide_eq_false (by omega),decide_eq_true h1];simp only[cond_true,cond_false];rw[h4,decide_eq_false (by omega)];rfl
theorem Xp {N:Nat} {n:Int} (h0:0<n) (h1:n<=256):TB (λc kf=>yb N c n kf) λ_=>True:=λc hc=>by obtain⟨v,c',h2,h3,h4⟩:=xP (N:=N) h0 h1 c hc;exact⟨_,c',h2,trivial,λkf=>h4 _⟩
theorem aaf {N:Nat} {l:List Int} (h0:0<l.length) (h1:l.length<=256):TB (λc kf=>xf N c l kf) λv=>v∈l:=λc hc=>by
 obtain⟨v,c',h2,h3,h4⟩:=xP (N:=N) (n:=(l.length:Int)) (by omega) (by omega) c hc;have h4:∀ kf,b7 N c (l.length:Int) kf=kf v c':=h4;obtain⟨k,rfl⟩:∃ k:Nat,v=(k:Int):=⟨v.toNat,by omega⟩;have hk:k<l.length:=by omega
 refine⟨l.getD k 0,c',h2,by rw[af _ _ hk];exact List.getElem_mem hk,λkf=>?_⟩;show xf N c l kf=_;unfold xf;rw[h4,ai hk,toNat_natCast];rfl
theorem aag {N:Nat} {a:List Int} (ha:a.length<=1048576) (hN:4000<N):∃ c:Uf,u9 c/\∀ kf,EZ N a kf=kf c:=by
 have key:∀ (d i n:Nat) (h:Int),i+d=min a.length 4000->d<n->∃ h',∀ k:Int->Option aa,oQ a n k h (i:Int)=k h':=by
  intro d;induction d with
  |zero=>
  intro i n h hi hn;obtain⟨n,rfl⟩:∃ m,n=m+1:=⟨n - 1,by omega⟩;refine⟨h,λk=>?_⟩;unfold oQ;by_cases h1:i<a.length
  ·rw[decide_eq_true (show(i:Int)<(length a:Int) by omega),decide_eq_false (show ¬(i:Int)<4000 by omega)];rfl
  rw[decide_eq_false (show ¬(i:Int)<(length a:Int) by omega)];rfl
  |succ d ih=>intro i n h hi hn;obtain⟨n,rfl⟩:∃ m,n=m+1:=⟨n - 1,by omega⟩;obtain⟨h',hh⟩:=ih (i+1) n (wrap .i64 (BitVec.toNat (BitVec.ofInt (IntKind.bits .i64) (wrap .i64 ((wrap .i64 ((wrap .i64 (h*(137:Int)))+(wrap .i64 (getD a (toNat (i:Int)) (0:Int)))))+(11:Int)))&&&BitVec.ofInt (IntKind.bits .i64) (1073741823:Int)))) (by omega) (by omega);refine⟨h',λk=>?_⟩;unfold oQ;rw[decide_eq_true (show(i:Int)<(length a:Int) by omega),decide_eq_true (show(i:Int)<4000 by omega),ai (by omega)];simp only[cond_true];rw[wrap64 (n:=(i:Int)+1) (by omega) (by omega)];exact hh k
 obtain⟨h',hh⟩:=key (min a.length 4000) 0 N (wrap .i64 ((193017:Int)+(length a:Int))) (by omega) (by omega);exact⟨(a,((0:Int),h')),⟨Int.le_refl 0,ha⟩,λkf=>hh _⟩
def acE:ax:=([],([],([],([],([],([],0))))))
theorem Pb:Good acE:=by refine⟨by decide,⟨λx hx=>(by cases hx),λx y hx=>(by cases hx),rfl,rfl⟩,rfl⟩
end Go.Pv.R
namespace Go.Pv.R
open List Int IntKind
theorem Nn {N:Nat} {c:ax} {kf:ByteArray->Option aa} (h:bo c N) (hg:Good c):uN N c kf=kf EY:=by obtain⟨h1,h2,h3,h4,h5⟩:=acD hg;unfold uN;simp only[MS h,Jk h,MU h,MW h,mZ h,h1,h2,h3,h4,h5];rfl
end Go.Pv.R
namespace Go.Pv.R
open List Int IntKind
end Go.Pv.R
namespace Go.Pv.R
open List Int IntKind
theorem below {N:Nat} {n:Int} {c:Uf} (h0:0<n) (h1:n<=256) (hc:u9 c):∃ v,∃ c':Uf,u9 c'/\(0<=v/\v<n)/\∀ kf,b7 N c n kf=kf v c':=xP (N:=N) h0 h1 c hc
theorem oneOf {N:Nat} {l:List Int} {c:Uf} (h0:0<l.length) (h1:l.length<=256) (hc:u9 c):∃ v,∃ c':Uf,u9 c'/\v∈l/\∀ kf,xf N c l kf=kf v c':=aaf (N:=N) h0 h1 c hc
theorem once {N:Nat} {n:Int} {c:Uf} (h0:0<n) (h1:n<=256) (hc:u9 c):∃ v,∃ c':Uf,u9 c'/\∀ kf,yb N c n kf=kf v c':=by obtain⟨v,c',h2,_,h4⟩:=Xp (N:=N) h0 h1 c hc;exact⟨v,c',h2,h4⟩
end Go.Pv.R
namespace Go.Pv.R
open List Int IntKind
end Go.Pv.R
namespace Go.Pv.R
open List Int IntKind
end Go.Pv.R
namespace Go.Pv.R
open List Int IntKind
end Go.Pv.R
namespace Go.Pv.R
open List Int IntKind
end Go.Pv.R
namespace Go.Pv.R
open List Int IntKind
theorem A4 {N:Nat} {a b:ax} {kf:Bool->Option aa} (h:bo a N):fv N a b kf=kf (QW a b):=by
 have hm:=aq;have h1:=h.rl;have h2:=h.rN;have h3:=h.bl;have h4:=h.ml;have h5:=h.sl;unfold QW fv;simp only[CU h.tl h.tm h.tN,BB h.jl h.jm h.jN,rb (N:=N) (a:=a.2.2.2.1) (by omega) h.sN,HE (N:=N) (a:=a.2.2.1) (by omega) (by omega),FC (N:=N) (a:=a.2.2.2.2.1) (by omega) h.bN,HF (N:=N) (a:=a.2.2.2.2.2.1) (by omega) h.mN];cases a.2.2.2.2.2.2==b.2.2.2.2.2.2
 ·simp
 cases decide (a.1=b.1)
 ·rfl
 cases decide (a.2.1=b.2.1)
 ·rfl
 cases decide (a.2.2.1=b.2.2.1)
 ·rfl
 cases decide (a.2.2.2.1=b.2.2.2.1)
 ·rfl
 cases decide (a.2.2.2.2.1=b.2.2.2.2.1)
 ·rfl
 simp
theorem Qc (a:ax):QW a a=true:=by unfold QW;simp
theorem ast {N:Nat} {c:ax} {id cg:Int} {kf:ax->Bool->Option aa} (h:Lj c N):rv N c id cg kf=kf (fQ c ((1:Int),(id,(cg,0)))).1 (fQ c ((1:Int),(id,(cg,0)))).2:=(O0 h.ok h.tb h.tN h.N2 h.mN).trans (aad (c:=c) (r:=Nl c (wg c id cg) 1 id) (k:=kf))
theorem apl {N:Nat} {c:ax} {id cg:Int} {kf:ax->Bool->Option aa} (h:Lj c N):pZ N c id cg kf=kf (fQ c ((2:Int),(id,(cg,0)))).1 (fQ c ((2:Int),(id,(cg,0)))).2:=M5 h.ok h.jb h.jN h.N2 h.mN
theorem anj {N:Nat} {c:ax} {kf:ax->Bool->Option aa} (h:Lj c N):oT N c kf=kf (fQ c ((3:Int),(0,(0,0)))).1 (fQ c ((3:Int),(0,(0,0)))).2:=O7 h.ok h.ok' h.N2 h.mN
theorem alr {N:Nat} {c:ax} {n f s:Int} {kf:ax->Bool->Option aa} (h:Lj c N):oe N c n f s kf=kf (fQ c ((4:Int),(f,(s,n)))).1 (fQ c ((4:Int),(f,(s,n)))).2:=(La h.ok h.N2 h.mN).trans (aad (c:=c) (r:=Nl c (DU c n f s) 4 (F9 c n f s).1) (k:=kf))
theorem apm {N:Nat} {c:ax} {kf:ax->Bool->Option aa} (h:Lj c N):p7 N c kf=kf (fQ c ((5:Int),(0,(0,0)))).1 (fQ c ((5:Int),(0,(0,0)))).2:=Nj h.ok h.N2 h.mN
theorem Good.ev {c:ax} {N:Nat} (h:Good c) (hN:400<N):Lj c N:=(na h.cl).evC hN
theorem apn {N:Nat} (hN:400<N) {z:ax}:∀ (d i n:Nat) (c:Uf) (x:ax),u9 c->Good x->i+d=7->1<=i->d<n->∃ x':ax,∃ c':Uf,u9 c'/\Good x'/\∀ kf,jB N z n kf c x (i:Int)=kf c' x':=by
 intro d;induction d with
 |zero=>intro i n c x hc hx hi h1 hn;obtain⟨n,rfl⟩:∃ j,n=j+1:=⟨n - 1,by omega⟩;obtain⟨v,c1,Ug,hv,e1⟩:=below (N:=N) (n:=3) (by omega) (by omega) hc;refine⟨x,c1,Ug,hx,λkf=>?_⟩;unfold jB;rw[e1,wrap64 (n:=1+v) (by omega) (by omega),wrap64 (by omega) (by omega),decide_eq_false (by omega)];rfl
 |succ d ih=>
 intro i n c x hc hx hi h1 hn;obtain⟨n,rfl⟩:∃ j,n=j+1:=⟨n - 1,by omega⟩;obtain⟨v,c1,Ug,hv,e1⟩:=below (N:=N) (n:=3) (by omega) (by omega) hc;by_cases hg:(i:Int)<=2*(1+v)
 ·obtain⟨x2,c2,Gx,BK,e2⟩:=ih (i+1) n c1 (fQ x ((1:Int),((wrap .i64 ((2:Int)*(i:Int))),((wrap .i64 ((1:Int)+(Int.tmod (i:Int) (3:Int)))),0)))).1 Ug (Cc hx _) (by omega) (by omega) (by omega);refine⟨x2,c2,Gx,BK,λkf=>?_⟩;unfold jB;rw[e1,wrap64 (n:=1+v) (by omega) (by omega),wrap64 (n:=2*(1+v)) (by omega) (by omega),decide_eq_true hg,cond_true,ast (hx.ev hN),wrap64 (n:=(i:Int)+1) (by omega) (by omega)];exact e2 kf
 refine⟨x,c1,Ug,hx,λkf=>?_⟩;unfold jB;rw[e1,wrap64 (n:=1+v) (by omega) (by omega),wrap64 (by omega) (by omega),decide_eq_false hg];rfl
theorem apo {N:Nat} (hN:400<N) {z:ax}:∀ (d i n:Nat) (c:Uf) (x:ax),u9 c->Good x->i+d=6->1<=i->d<n->∃ x':ax,∃ c':Uf,u9 c'/\Good x'/\∀ kf,jC N z n kf c x (i:Int)=kf c' x':=by
 intro d;induction d with
 |zero=>intro i n c x hc hx hi h1 hn;obtain⟨n,rfl⟩:∃ j,n=j+1:=⟨n - 1,by omega⟩;obtain⟨v,c1,Ug,hv,e1⟩:=below (N:=N) (n:=4) (by omega) (by omega) hc;refine⟨x,c1,Ug,hx,λkf=>?_⟩;unfold jC;rw[e1,wrap64 (by omega) (by omega),decide_eq_false (by omega)];rfl
 |succ d ih=>
 intro i n c x hc hx hi h1 hn;obtain⟨n,rfl⟩:∃ j,n=j+1:=⟨n - 1,by omega⟩;obtain⟨v,c1,Ug,hv,e1⟩:=below (N:=N) (n:=4) (by omega) (by omega) hc;by_cases hg:(i:Int)<=2+v
 ·obtain⟨v2,c2,Gx,X5,e2⟩:=below (N:=N) (n:=2) (by omega) (by omega) Ug;obtain⟨x2,c3,hc3,BK,e3⟩:=ih (i+1) n c2 (fQ x ((2:Int),((wrap .i64 ((10:Int)+(i:Int))),((wrap .i64 ((4:Int)+v2)),0)))).1 Gx (Cc hx _) (by omega) (by omega) (by omega);refine⟨x2,c3,hc3,BK,λkf=>?_⟩;unfold jC;rw[e1,wrap64 (n:=2+v) (by omega) (by omega),decide_eq_true hg,cond_true,e2,apl (hx.ev hN),wrap64 (n:=(i:Int)+1) (by omega) (by omega)];exact e3 kf
 refine⟨x,c1,Ug,hx,λkf=>?_⟩;unfold jC;rw[e1,wrap64 (n:=2+v) (by omega) (by omega),decide_eq_false hg];rfl
theorem als {N:Nat} (hN:400<N) {z:ax}:∀ (k n:Nat) (c:Uf) (x:ax),u9 c->Good x->k<n->k<=100->∃ x':ax,∃ c':Uf,u9 c'/\Good x'/\∀ kf,bO N z n kf c x (k:Int)=kf c' x':=by
 intro k;induction k with
 |zero=>intro n c x hc hx hn hk;obtain⟨n,rfl⟩:∃ j,n=j+1:=⟨n - 1,by omega⟩;refine⟨x,c,hc,hx,λkf=>?_⟩;unfold bO;rw[decide_eq_false (by omega)];rfl
 |succ k ih=>
 intro n c x hc hx hn hk;obtain⟨n,rfl⟩:∃ j,n=j+1:=⟨n - 1,by omega⟩;obtain⟨v,c1,Ug,hv,e1⟩:=below (N:=N) (n:=4) (by omega) (by omega) hc;have aeq:wrap .i64 (((k+1:Nat):Int) - 1)=(k:Int):=by rw[wrap64 (by omega) (by omega)];omega
 have hOK:bo x N:=(na hx.cl).okC (by omega);have step:∀ (c2:Uf) (e:QL),u9 c2->∃ x':ax,∃ c':Uf,u9 c'/\Good x'/\∀ kf,bO N z n kf c2 (fQ x e).1 (k:Int)=kf c' x':=λc2 e Gx=>ih n c2 _ Gx (Cc hx e) (by omega) (by omega);have hw:=IM x;have b10:=(na hx.cl).b10;cases hv0:v==0 with
 |true=>obtain⟨x2,c2,Gx,BK,e2⟩:=step c1 ((3:Int),(0,(0,0))) Ug;refine⟨x2,c2,Gx,BK,λkf=>?_⟩;unfold bO;rw[decide_eq_true (by omega),cond_true,e1,hv0,cond_true,anj (hx.ev hN),aeq];exact e2 kf
 |false=>
 cases hv1:v==1 with
 |true=>obtain⟨x2,c2,Gx,BK,e2⟩:=step c1 ((5:Int),(0,(0,0))) Ug;refine⟨x2,c2,Gx,BK,λkf=>?_⟩;unfold bO;rw[decide_eq_true (by omega),cond_true,e1,hv0,hv1,cond_false,cond_true,apm (hx.ev hN),aeq];exact e2 kf
 |false=>
 by_cases hwz:(length (aX x):Int)>0
 ·obtain⟨p,c2,Gx,hp,e2⟩:=below (N:=N) (n:=20) (by omega) (by omega) Ug;obtain⟨q,c3,hc3,hq,e3⟩:=oneOf (N:=N) (l:=[(-2:Int),(1:Int),(3:Int)]) (by simp) (by simp) Gx;obtain⟨x2,c4,hc4,BK,e4⟩:=step c3 ((4:Int),((wrap .i64 ((60:Int)+p)),((wrap .i64 ((wrap .i64 ((60:Int)+p))+q)),(getD (aX x) (toNat (0:Int)) (0:Int))))) hc3;refine⟨x2,c4,hc4,BK,λkf=>?_⟩;have gl:aD (0:Int) (length (aX x))=true:=(by have:=ai (i:=0) (m:=(aX x).length) (by omega);exact this);unfold bO;rw[decide_eq_true (by omega),cond_true,e1,hv0,hv1,cond_false,cond_false,yN hOK,decide_eq_true hwz,cond_true,e2,gl,cond_true,e3,alr (hx.ev hN),aeq];exact e4 kf
 obtain⟨x2,c2,Gx,BK,e2⟩:=step c1 ((3:Int),(0,(0,0))) Ug;refine⟨x2,c2,Gx,BK,λkf=>?_⟩;unfold bO;rw[decide_eq_true (by omega),cond_true,e1,hv0,hv1,cond_false,cond_false,yN hOK,decide_eq_false hwz,cond_false,anj (hx.ev hN),aeq];exact e2 kf
theorem UE {N:Nat} (hN:400<N):TB (zX N) Good:=λc hc=>by obtain⟨x1,c1,Ug,hx1,e1⟩:=apn (N:=N) hN (z:=acE) 6 1 N c acE hc Pb rfl (by omega) (by omega);obtain⟨x2,c2,Gx,BK,e2⟩:=apo (N:=N) hN (z:=acE) 5 1 N c1 x1 Ug hx1 rfl (by omega) (by omega);obtain⟨v,c3,hc3,hv,e3⟩:=below (N:=N) (n:=9) (by omega) (by omega) Gx;obtain⟨k,rfl⟩:∃ k:Nat,v=(k:Int):=⟨v.toNat,by omega⟩;obtain⟨x4,c4,hc4,hx4,e4⟩:=als (N:=N) hN (z:=acE) k N c3 x2 hc3 BK (by omega) (by omega);refine⟨x4,c4,hc4,hx4,λkf=>?_⟩;unfold zX E0;refine(e1 _).trans ?_;refine(e2 _).trans ?_;rw[e3];exact e4 _
end Go.Pv.R
namespace Go.Pv.R
open List Int IntKind
end Go.Pv.R
namespace Go.Pv.R
open List Int IntKind
end Go.Pv.R
namespace Go.Pv.R
open List Int IntKind
end Go.Pv.R
namespace Go.Pv.R
open List Int IntKind
end Go.Pv.R
namespace Go.Pv.R
open List Int IntKind
end Go.Pv.R
namespace Go.Pv.R
open List Int IntKind
end Go.Pv.R
namespace Go.Pv.R
open List Int IntKind
end Go.Pv.R
namespace Go.Pv.R
open List Int IntKind
end Go.Pv.R
namespace Go.Pv.R
open List Int IntKind
theorem aah {c:UInt8}:∀ {w r:List UInt8},c∉w->spl c (w++c::r)=w::spl c r
 |[],r,_=>by simp[spl]
 |b::w,r,h=>by have hb:(b==c)=false:=beq_eq_false_iff_ne.2 λe=>h (by rw[e];simp);show spl c (b::(w++c::r))=_;simp only[spl,hb,cond_false];rw[aah (w:=w) λhc=>h (List.mem_cons_of_mem _ hc)]
theorem aai {N:Nat} {l:List ByteArray} (h0:0<l.length) (h1:l.length<=256):TB (λc kf=>AD N c l kf) λv=>v∈l:=λc hc=>by
 obtain⟨v,c',h2,h3,h4⟩:=xP (N:=N) (n:=(l.length:Int)) (by omega) (by omega) c hc;have h4:∀ kf,b7 N c (l.length:Int) kf=kf v c':=h4;obtain⟨k,rfl⟩:∃ k:Nat,v=(k:Int):=⟨v.toNat,by omega⟩;have hk:k<l.length:=by omega
 refine⟨l.getD k ByteArray.empty,c',h2,by rw[af _ _ hk];exact List.getElem_mem hk,λkf=>?_⟩;show AD N c l kf=_;unfold AD;rw[h4,ai hk,toNat_natCast];rfl
end Go.Pv.R
namespace Go.Pv.R
open List Int IntKind
def asu (c:UInt8) (s:ByteArray):Nat:=s.data.toList.count c
theorem TC {s:ByteArray} {c:UInt8} {k:Int->Option aa} {f:Nat->Int->Int->Option aa} (hs:s.size<=1000000) (hf:∀ n v i,f (n+1) v i=bif (decide (i<(ByteArray.size s:Int))) then bif (aD i (ByteArray.size s)) then bif ((bt s i)==(c.toNat:Int)) then f n (wrap .i64 (v+(1:Int))) (wrap .i64 (i+(1:Int))) else f n v (wrap .i64 (i+(1:Int))) else none else k v): ∀ (r:List UInt8) (i n v:Nat),s.data.toList.drop i=r->r.length<n->v<=i->f n (v:Int) (i:Int)=k ((v+r.count c:Nat):Int)
 |[],i,n,v,hd,hn,hv=>by obtain⟨n,rfl⟩:∃ j,n=j+1:=⟨n - 1,by simp only[List.length_nil] at hn;omega⟩;have pL:s.data.toList.length=s.size:=(Lib.size_eq s).symm;have gl:s.size<=i:=(by have:=congrArg length hd;simp only[List.length_drop,List.length_nil] at this;omega);rw[hf,decide_eq_false (by omega),cond_false];rfl
 |b::r,i,n,v,hd,hn,hv=>by
  obtain⟨n,rfl⟩:∃ j,n=j+1:=⟨n - 1,by omega⟩;obtain⟨h1,h2,h3⟩:=alp hd;simp only[List.length_cons] at hn;have hw1:wrap .i64 ((v:Int)+(1:Int))=((v+1:Nat):Int):=(by rw[wrap64 (by omega) (by omega)];omega);have BF:wrap .i64 ((i:Int)+(1:Int))=((i+1:Nat):Int):=(by rw[wrap64 (by omega) (by omega)];omega);rw[hf,decide_eq_true (by omega),cond_true,ai h1,cond_true,h2,hw1,BF];by_cases hb:b=c
  ·subst hb;rw[beq_self_eq_true,cond_true,TC hs hf r (i+1) n (v+1) h3 (by omega) (by omega),List.count_cons_self];congr 2;omega
  have hbe:(((b.toNat:Int))==(c.toNat:Int))=false:=beq_eq_false_iff_ne.2 λe=>hb (UInt8.toNat_inj.1 (by omega));rw[hbe,cond_false,TC hs hf r (i+1) n v h3 (by omega) (by omega),List.count_cons_of_ne hb]
theorem acF {c:ax} (h:bY c=true):c.2.2.1.length<=100/\(∀ x∈c.2.2.1,Jo x.1/\Jo x.2)/\∀ x∈c.2.2.2.1,Jo x:=by
 have hc:=u7 h;have hs:=na h;rcases hc.ro with h0 |⟨hr,hse⟩
 ·have h1:c.2.2.1=[]:=List.length_eq_zero_iff.1 h0;have h2:c.2.2.2.1=[]:=List.length_eq_zero_iff.1 (by rw[hc.sl,h0]);refine⟨by omega,λx hx=>?_,λx hx=>?_⟩
  ·rw[h1] at hx;cases hx
  rw[h2] at hx;cases hx
 have hid:∀ id,id∈uU c.1->Jo id:=λid hid=>by obtain⟨x,hx,rfl⟩:=List.mem_map.1 hid;have ht:=hc.t;unfold ar at ht;simp only[Bool.and_eq_true] at ht;obtain⟨i,hi,rfl⟩:=List.mem_iff_getElem.1 hx;have:=iv.1 ht.2.1 i hi;unfold qM at this;simp only[Bool.and_eq_true,uX] at this;unfold Jo;have:=this.1;omega
 unfold lJ at hr;simp only[Bool.and_eq_true] at hr;have X1:=List.all_eq_true.1 hr.1;refine⟨?_,λx hx=>?_,λx hx=>?_⟩
 ·have:=hs.r10;omega
 ·obtain⟨_,h1,h2,_⟩:=qb (X1 x hx);exact⟨hid _ h1,hid _ h2⟩
 unfold gQ at hse;simp only[Bool.and_eq_true,decide_eq_true_eq] at hse;obtain⟨hl,hj,hp⟩:=hse;obtain⟨i,hi,rfl⟩:=List.mem_iff_getElem.1 hx;have:=iv.1 hp i (by omega);unfold DR at this;simp only[Nat.zero_add,Bool.and_eq_true,decide_eq_true_eq,af _ _ hi] at this;obtain⟨k,hk,_,h1,_⟩:=ck (p:=λx:bc=>x.1==c.2.2.2.1[i]) (l:=c.2.1) (by have:=this.1;unfold dA at this;omega);unfold cf at hj;simp only[Bool.and_eq_true] at hj;have Vb:=iv.1 hj.2 k hk;unfold AQ at Vb;simp only[Bool.and_eq_true,uX] at Vb;have h1:(c.2.1[k]).1=c.2.2.2.1[i]:=by simpa using h1
 unfold Jo;have:=Vb.1;omega
end Go.Pv.R
namespace Go.Pv.R
open List Int IntKind
def atw:dG:=(5,[[0,1],[1,0],[1,2],[2,3],[3,4],[4,2]])
theorem alu (M:Nat) (kf:List (List Int)->Option aa):uJ (M+300) atw kf=kf [[0],[1,3]]:=by kernel_rfl
end Go.Pv.R
namespace Go.Pv.R
open List Int IntKind
def neB (s:ByteArray):Prop:=(ByteArray.toList s==ByteArray.toList EY)=false
theorem sQ {s:ByteArray} (h:1<=s.size):neB s:=by unfold neB;rw[Lib.toList_data,Lib.toList_data,beq_eq_false_iff_ne];intro e;have h2:s.data.toList.length=s.size:=(Lib.size_eq s).symm;rw[e] at h2;have h3:EY.data.toList.length=0:=rfl;omega
theorem TD {l:List ByteArray} (h:∀ x∈l,1<=x.size):1<=(HN l).size:=by
 cases l with
 |nil=>exact Nat.le_refl 1
 |cons x r=>show 1<=(BQ (x::r) BT).size;rw[S9,dS];have:=h x (by simp);omega
theorem TE (l:List Int):1<=(HN (Tb l)).size:=TD λy hy=>by obtain⟨j,x,hx,rfl⟩:=ns hy;exact O2 x
theorem afU (l:List ak):1<=(HN (Tc l)).size:=TD λy hy=>by obtain⟨j,x,hx,rfl⟩:=ns hy;have:=O2 x.1;unfold ZY;simp only[dS];omega
theorem afV (s:List Int) (l:List cW):1<=(HN (Td s l)).size:=TD λy hy=>by obtain⟨j,x,hx,rfl⟩:=ns hy;have:=O2 x.1;unfold Z0;simp only[dS];omega
theorem TF {c:ax} (h:bY c=true):∀ x∈c.1,Xl x:=λx hx=>by have hT:=(u7 h).t;have a:=IV hT hx;obtain⟨i,hi,rfl⟩:=List.mem_iff_getElem.1 hx;unfold ar at hT;simp only[Bool.and_eq_true] at hT;have h1:=iv.1 hT.2.1 i hi;unfold qM at h1;simp only[Bool.and_eq_true,uX] at h1;have w:=a.w;have p:=a.p;have m:=a.m;have m':(c.1[i]).2.2.2.2.2.length<=20:=m;have hi1:=h1.1;have w':(c.1[i]).2.2.1<=(c.1[i]).2.2.2.2.2.length:=w.2;exact⟨by unfold Jo;omega,by unfold Jo;omega,by unfold Jo;omega,by unfold Jo;omega⟩
theorem acG {c:ax} (h:bY c=true):∀ x∈uZ c.1,Jo x:=λx hx=>by unfold uZ at hx;rw[(u7 h).t,cond_true] at hx;obtain⟨t,ht,rfl⟩:=List.mem_map.1 hx;exact(TF h t (O4.1 ht)).h1
theorem ajo {c:ax} (h:bY c=true):Jo c.2.2.2.2.2.2:=by have:=(u7 h).pl;unfold Jo;omega
def Ge (F:(ByteArray->Option aa)->Option aa):Prop:=∃ s,neB s/\∀ kf,F kf=kf s
theorem aaj {N:Nat} {c:ax} (hN:400<N) (h:Good c):Ge λk=>iR N c.1 λl=>br N l k:=by have hO:=(na h.cl).okC (N:=N) (by omega);have hl:=FF (u7 h.cl).t;have h10:=(na h.cl).t10;exact⟨HN (Tb (uZ c.1)),sQ (TE _),λkf=>by show iR N c.1 (λl=>br N l kf)=_;rw[xt hO.tl hO.tm hO.tN (by omega),o9 (acG h.cl) (by omega) (by omega)]⟩
theorem aak {N:Nat} {c:ax} (hN:400<N) (h:Good c):Ge λk=>kr N c.1 k:=by have h10:=(na h.cl).t10;exact⟨_,sQ (afU _),λkf=>Jp (TF h.cl) (by omega) (by omega)⟩
theorem aal {N:Nat} {c:ax} (hN:400<N) (h:Good c):Ge λk=>ku N c.2.2.1 c.2.2.2.1 k:=by obtain⟨g1,g2,g3⟩:=acF h.cl;exact⟨_,sQ (afV _ _),λkf=>Jq g3 g2 (by omega) (by omega)⟩
theorem Pc {α:Type} {p:Nat->α->Bool} {y:Int}:∀ {l:List α} {i:Nat},y∈gO p (λi _=>(i:Int)) l i->0<=y/\y<(i:Int)+l.length
 |[],i,h=>by simp[gO] at h
 |x::r,i,h=>by
  unfold gO at h;simp only[List.length_cons];cases hp:p i x with
  |true=>
  rw[hp] at h;rcases List.mem_cons.1 h with rfl |h
  ·omega
  have:=Pc h;omega
  |false=>rw[hp] at h;have:=Pc (i:=i+1) h;omega
theorem apq {c:ax} (h:bY c=true):∀ x∈aX c,Jo x:=λx hx=>by have:=Pc hx;have hj:=(na h).b10;unfold Jo;omega
theorem acH {N:Nat} {c:ax} (hN:400<N) (h:Good c):Ge λk=>iS N c λl=>br N l k:=by have hO:=(na h.cl).okC (N:=N) (by omega);have hl:=IM c;have h10:=(na h.cl).b10;exact⟨HN (Tb (aX c)),sQ (TE _),λkf=>by show iS N c (λl=>br N l kf)=_;rw[sj hO,o9 (apq h.cl) (by omega) (by omega)]⟩
theorem acI {N:Nat} {c:ax} (hN:400<N) (h:Good c):Ge λk=>ld N c k:=by
 have hO:=(na h.cl).okC (N:=N) (by omega);exact⟨_,sQ (TE [(length c.1:Int),(length c.2.1:Int),(length c.2.2.1:Int),(length (aX c):Int),c.2.2.2.2.2.2,(length c.2.2.2.2.2.1:Int)]),λkf=>by
  show ld N c kf=_
  unfold ld
  rw[sj hO,o9 (ajd hO (ajo h.cl)) (by simp) (by simp only[List.length_cons,List.length_nil];omega)]⟩
theorem aam {N:Nat} {c:ax} {id cg:Int} {kf:ax->Bool->Option aa} (h:Lj c N):gw N c id cg kf=kf (fQ c ((1:Int),(id,(cg,0)))).1 (fQ c ((1:Int),(id,(cg,0)))).2:=(O1 h.ok h.tb h.tN h.N2 h.mN).trans (aad (c:=c) (r:=Nl c (wg c id cg) 1 id) (k:=kf))
theorem acJ {N:Nat} {c:ax} {id cg:Int} {kf:ax->Bool->Option aa} (h:Lj c N):jd N c id cg kf=kf (fQ c ((2:Int),(id,(cg,0)))).1 (fQ c ((2:Int),(id,(cg,0)))).2:=M6 h.ok h.jb h.jN h.N2 h.mN
theorem asv {N:Nat} {c:ax} {kf:ax->Bool->Option aa} (h:Lj c N):oV N c kf=kf (fQ c ((3:Int),(0,(0,0)))).1 (fQ c ((3:Int),(0,(0,0)))).2:=O8 h.ok h.ok' h.N2 h.mN
theorem Q2 {N:Nat} {c:ax} {n f s:Int} {kf:ax->Bool->Option aa} (h:Lj c N):fu N c n f s kf=kf (fQ c ((4:Int),(f,(s,n)))).1 (fQ c ((4:Int),(f,(s,n)))).2:=(Lb h.ok h.N2 h.mN).trans (aad (c:=c) (r:=Nl c (DU c n f s) 4 (F9 c n f s).1) (k:=kf))
theorem apr {N:Nat} {c:ax} {kf:ax->Bool->Option aa} (h:Lj c N):mV N c kf=kf (fQ c ((5:Int),(0,(0,0)))).1 (fQ c ((5:Int),(0,(0,0)))).2:=Nk h.ok h.N2 h.mN
theorem ajp {N:Nat} {c:ax} {id:Int} {kf:ax->Bool->Option aa} (h:Lj c N):kO N c id kf=kf (fQ c ((6:Int),(id,(0,0)))).1 (fQ c ((6:Int),(id,(0,0)))).2:=(M4 h.ok h.N2 h.mN).trans (aad (c:=c) (r:=Nl c (FD c id) 6 id) (k:=kf))
end Go.Pv.R
namespace Go.Pv.R
open List Int IntKind
def atx (N:Nat) (c:ax) (kf:ax->ByteArray->Option aa):ax->Bool->Option aa:=λx b=>bif (!b) then aF N c (λy=>kf y WN) else kf x Y9
def ajq (N:Nat) (line:ByteArray):Prop:=∀ c:ax,Good c->∃ s,neB s/\∀ kf,bA N c line kf=kf c s
def VW (N:Nat) (line:ByteArray):Prop:=∀ c:ax,Good c->∃ (x:ax) (s:ByteArray),Good x/\neB s/\(x=c∨s=Y9)/\∀ kf,bA N c line kf=kf x s
theorem rF {N:Nat} {line:ByteArray} (h:ajq N line):VW N line:=λc hc=>by obtain⟨s,h1,h2⟩:=h c hc;exact⟨c,s,hc,h1,.inl rfl,h2⟩
theorem rh {N:Nat} {line:ByteArray} {F:ax->(ax->Bool->Option aa)->Option aa} (e:QL) (hN:400<N) (h:∀ c kf,bA N c line kf=F c (atx N c kf)) (hF:∀ c,Lj c N->∀ k,F c k=k (fQ c e).1 (fQ c e).2):VW N line:=λc hc=>by
 have hv:Lj c N:=hc.ev hN;cases hb:(fQ c e).2 with
 |true=>exact⟨(fQ c e).1,Y9,Cc hc e,sQ (by decide),.inr rfl,λkf=>by rw[h,hF c hv,hb];rfl⟩
 |false=>exact⟨c,WN,hc,sQ (by decide),.inl rfl,λkf=>by rw[h,hF c hv,hb];show aF N c (λy=>kf y WN)=_;rw[bQ hv.ok]⟩
theorem xQ {N:Nat} {line:ByteArray} (s:ByteArray) (hs:1<=s.size) (hN:400<N) (h:∀ c kf,bA N c line kf=aF N c λx=>kf x s):ajq N line:=λc hc=>⟨s,sQ hs,λkf=>by rw[h,bQ (hc.ev hN).ok]⟩
theorem A5 {N:Nat} {line:ByteArray} {G:ax->(ByteArray->Option aa)->Option aa} (hN:400<N) (h:∀ c kf,bA N c line kf=aF N c λx=>G c (kf x)) (hG:∀ c,Good c->Ge (G c)):ajq N line:=λc hc=>by obtain⟨s,h1,h2⟩:=hG c hc;exact⟨s,h1,λkf=>by rw[h,bQ (hc.ev hN).ok,h2]⟩
theorem acK (N:Nat) (c:ax) (k:ByteArray->Option aa):fb N c qx [] k=uN N c λs=>bif (!(ByteArray.toList s==ByteArray.toList EY)) then k s else k Y9:=by kernel_rfl
theorem aan {N:Nat} {c:ax} (hN:400<N) (h:Good c):Ge λk=>fb N c qx [] k:=
 ⟨Y9,sQ (by decide),λkf=>by
  show fb N c qx [] kf=_
  rw[acK,Nn (h.ev hN).ok h,beq_self_eq_true]
  rfl⟩
theorem afW (N:Nat) (c:ax) (k:ByteArray->Option aa):fb N c fS [] k=cd N λg=>uJ N g λl=>xM N l k:=by kernel_rfl
theorem afX (M:Nat) (k:ByteArray->Option aa):xM (M+400) [[0],[1,3]] k=k ⟨#[123,48,125,123,49,44,51,125]⟩:=by kernel_rfl
theorem acL (M:Nat) (c:ax) (hM:2000<M):Ge λk=>fb (M+400) c fS [] k:=
 ⟨⟨#[123,48,125,123,49,44,51,125]⟩,sQ (by decide),λkf=>by
  show fb (M+400) c fS [] kf=_
  rw[afW]
  unfold cd
  exact(alu (M+100) _).trans (afX M kf)⟩
theorem Xq (M:Nat) (c:ax):Ge λk=>fb (M+400) c jw [] k:=⟨oc,sQ (by decide),λkf=>by kernel_rfl⟩
theorem acM (M:Nat) (c:ax):Ge λk=>fb (M+400) c PX [0] k:=⟨WN,sQ (by decide),λkf=>by kernel_rfl⟩
theorem acN (M:Nat) (c:ax):Ge λk=>fb (M+400) c PX [3] k:=⟨WN,sQ (by decide),λkf=>by kernel_rfl⟩
theorem acO (M:Nat) (c:ax):Ge λk=>fb (M+400) c PX [9] k:=⟨WN,sQ (by decide),λkf=>by kernel_rfl⟩
def alv {α:Type} (P:α->Prop):List α->Prop
 |[]=>True
 |x::r=>P x/\alv P r
theorem No {α:Type} {P:α->Prop}:∀ {l:List α},alv P l->∀ x∈l,P x
 |[],_,x,h=>by cases h
 |y::r,h,x,hx=>by
  rcases List.mem_cons.1 hx with rfl |hx
  ·exact h.1
  exact No h.2 x hx
def acP:List ByteArray:=[lW,xC,xD,oP,ue,qx,jw,fS,lX,cB,EY]
def ke:List ByteArray:=[Vz,mv,mw,za,zb,zd,jo,td,th,KL,mg,mh,mj,pn,Mo,BR,BS,lW,xC,xD,oP,ue,qx,jw,fS,JO,lX,JP,np,ze,cB,FW,Se,EY,oZ,FX,zf,FY]
theorem sk (M:Nat) (hM:2000<M):alv (ajq (M+400)) acP:=
 ⟨
  A5 (G:=λc k=>iR (M+400) c.1 λl=>br (M+400) l k) (by omega) (λc kf=>by kernel_rfl) λc hc=>aaj (by omega) hc,
  A5 (G:=λc k=>kr (M+400) c.1 k) (by omega) (λc kf=>by kernel_rfl) λc hc=>aak (by omega) hc,
  A5 (G:=λc k=>ku (M+400) c.2.2.1 c.2.2.2.1 k) (by omega) (λc kf=>by kernel_rfl) λc hc=>aal (by omega) hc,
  A5 (G:=λc k=>iS (M+400) c λl=>br (M+400) l k) (by omega) (λc kf=>by kernel_rfl) λc hc=>acH (by omega) hc,
  A5 (G:=λc k=>ld (M+400) c k) (by omega) (λc kf=>by kernel_rfl) λc hc=>acI (by omega) hc,
  A5 (G:=λc k=>fb (M+400) c qx [] k) (by omega) (λc kf=>by kernel_rfl) λc hc=>aan (by omega) hc,
  A5 (G:=λc k=>fb (M+400) c jw [] k) (by omega) (λc kf=>by kernel_rfl) λc hc=>Xq M c,
  A5 (G:=λc k=>fb (M+400) c fS [] k) (by omega) (λc kf=>by kernel_rfl) λc hc=>acL M c hM,
  A5 (G:=λc k=>fb (M+400) c PX [3] k) (by omega) (λc kf=>by kernel_rfl) λc hc=>acN M c,
  xQ ⟨#[49,54]⟩ (by decide) (by omega) λc kf=>by kernel_rfl,
  xQ oZ (by decide) (by omega) λc kf=>by kernel_rfl,trivial⟩
theorem aps (M:Nat):VW (M+400) Vz:=λc hc=>⟨acE,Y9,Pb,sQ (by decide),.inr rfl,λkf=>by kernel_rfl⟩
theorem aao (M:Nat) (hM:2000<M):alv (VW (M+400)) ke:=
 ⟨
  aps M,
  rh (F:=λc k=>gw (M+400) c 2 1 k) ((1:Int),(2,(1,0))) (by omega) (λc kf=>by kernel_rfl) λc hc k=>aam hc,
  rh (F:=λc k=>gw (M+400) c 4 2 k) ((1:Int),(4,(2,0))) (by omega) (λc kf=>by kernel_rfl) λc hc k=>aam hc,
  rh (F:=λc k=>gw (M+400) c 6 1 k) ((1:Int),(6,(1,0))) (by omega) (λc kf=>by kernel_rfl) λc hc k=>aam hc,
  rh (F:=λc k=>gw (M+400) c 8 3 k) ((1:Int),(8,(3,0))) (by omega) (λc kf=>by kernel_rfl) λc hc k=>aam hc,
  rh (F:=λc k=>gw (M+400) c 0 1 k) ((1:Int),(0,(1,0))) (by omega) (λc kf=>by kernel_rfl) λc hc k=>aam hc,
  rh (F:=λc k=>jd (M+400) c 11 4 k) ((2:Int),(11,(4,0))) (by omega) (λc kf=>by kernel_rfl) λc hc k=>acJ hc,
  rh (F:=λc k=>jd (M+400) c 12 5 k) ((2:Int),(12,(5,0))) (by omega) (λc kf=>by kernel_rfl) λc hc k=>acJ hc,
  rh (F:=λc k=>jd (M+400) c 11 1 k) ((2:Int),(11,(1,0))) (by omega) (λc kf=>by kernel_rfl) λc hc k=>acJ hc,
  rh (F:=λc k=>oV (M+400) c k) ((3:Int),(0,(0,0))) (by omega) (λc kf=>by kernel_rfl) λc hc k=>asv hc,
  rh (F:=λc k=>fu (M+400) c 0 70 60 k) ((4:Int),(70,(60,0))) (by omega) (λc kf=>by kernel_rfl) λc hc k=>Q2 hc,
  rh (F:=λc k=>fu (M+400) c 1 61 66 k) ((4:Int),(61,(66,1))) (by omega) (λc kf=>by kernel_rfl) λc hc k=>Q2 hc,
  rh (F:=λc k=>fu (M+400) c 0 70 70 k) ((4:Int),(70,(70,0))) (by omega) (λc kf=>by kernel_rfl) λc hc k=>Q2 hc,
  rh (F:=λc k=>fu (M+400) c 5 1 2 k) ((4:Int),(1,(2,5))) (by omega) (λc kf=>by kernel_rfl) λc hc k=>Q2 hc,
  rh (F:=λc k=>mV (M+400) c k) ((5:Int),(0,(0,0))) (by omega) (λc kf=>by kernel_rfl) λc hc k=>apr hc,
  rh (F:=λc k=>kO (M+400) c 8 k) ((6:Int),(8,(0,0))) (by omega) (λc kf=>by kernel_rfl) λc hc k=>ajp hc,
  rh (F:=λc k=>kO (M+400) c 2 k) ((6:Int),(2,(0,0))) (by omega) (λc kf=>by kernel_rfl) λc hc k=>ajp hc,
  rF (sk M hM).1,
  rF (sk M hM).2.1,
  rF (sk M hM).2.2.1,
  rF (sk M hM).2.2.2.1,
  rF (sk M hM).2.2.2.2.1,
  rF (sk M hM).2.2.2.2.2.1,
  rF (sk M hM).2.2.2.2.2.2.1,
  rF (sk M hM).2.2.2.2.2.2.2.1,
  rF (A5 (G:=λc k=>fb (M+400) c PX [0] k) (by omega) (λc kf=>by kernel_rfl) λc hc=>acM M c),
  rF (sk M hM).2.2.2.2.2.2.2.2.1,
  rF (A5 (G:=λc k=>fb (M+400) c PX [9] k) (by omega) (λc kf=>by kernel_rfl) λc hc=>acO M c),
  rF (xQ amN (by decide) (by omega) λc kf=>by kernel_rfl),
  rF (xQ WN (by decide) (by omega) λc kf=>by kernel_rfl),
  rF (sk M hM).2.2.2.2.2.2.2.2.2.1,
  rF (xQ oZ (by decide) (by omega) λc kf=>by kernel_rfl),
  rF (xQ oZ (by decide) (by omega) λc kf=>by kernel_rfl),
  rF (sk M hM).2.2.2.2.2.2.2.2.2.2.1,
  rF (xQ oZ (by decide) (by omega) λc kf=>by kernel_rfl),
  rF (xQ oZ (by decide) (by omega) λc kf=>by kernel_rfl),
  rF (xQ oZ (by decide) (by omega) λc kf=>by kernel_rfl),
  rF (xQ oZ (by decide) (by omega) λc kf=>by kernel_rfl),trivial⟩
end Go.Pv.R
namespace Go.Pv.R
open List Int IntKind
def ajr (l:ByteArray):List UInt8:=l.data.toList++[10]
def fR (ls:List ByteArray):ByteArray:=wh (ls.flatMap ajr)
theorem IW:∀ v∈ke,v.size<=20/\v.data.toList.count 10=0:=by
 have h:(ke.all λv=>decide (v.size<=20)&&(v.data.toList.count 10==0))=true:=by decide+kernel
 intro v hv;have:=List.all_eq_true.1 h v hv;simpa using this
theorem Cd {ls:List ByteArray} (h:∀ v∈ls,v∈ke):(fR ls).size<=21*ls.length:=by
 unfold fR;rw[afP];induction ls with
 |nil=>simp
 |cons x r ih=>have h1:=ih λv hv=>h v (by simp[hv]);have h2:=(IW x (h x (by simp))).1;have h3:x.data.toList.length=x.size:=(Lib.size_eq x).symm;simp only[List.flatMap_cons,List.length_append,List.length_cons,ajr,List.length_nil];omega
theorem TG (ls:List ByteArray) (v:ByteArray):(fR ls++v)++PZ=fR (ls++[v]):=by apply afH;have h:PZ.data.toList=[10]:=rfl;simp only[M7,fR,DV,List.flatMap_append,List.flatMap_cons,List.flatMap_nil,List.append_nil,ajr,h,List.append_assoc]
theorem Xr {ls:List ByteArray} (h:∀ v∈ls,v∈ke):asu 10 (fR ls)=ls.length:=by
 unfold asu fR;rw[DV];induction ls with
 |nil=>rfl
 |cons x r ih=>have h2:=(IW x (h x (by simp))).2;rw[List.flatMap_cons,List.count_append,ih λv hv=>h v (by simp[hv]),ajr,List.count_append,h2,List.length_cons];simp;omega
theorem Xs:∀ {ls:List ByteArray},(∀ v∈ls,v∈ke)->(spl 10 (fR ls).data.toList).map wh=ls++[wh []]:=by
 intro ls h;unfold fR;rw[DV];induction ls with
 |nil=>rfl
 |cons x r ih=>have h2:=(IW x (h x (by simp))).2;have hn:(10:UInt8)∉x.data.toList:=List.count_eq_zero.1 h2;rw[List.flatMap_cons,ajr,List.append_assoc,List.singleton_append,aah hn,List.map_cons,ih λv hv=>h v (by simp[hv]),VR,List.cons_append]
theorem J7 {N:Nat}:TB (zY N) λv=>v∈ke:=λc hc=>aai (N:=N) (l:=ke) (by decide) (by decide) c hc
theorem fit {a b:Nat} (h:a+b<=1000000):decide (a+b<=9223372036854775807)=true:=decide_eq_true (by omega)
theorem aer {N:Nat}:∀ (k n:Nat) (c:Uf) (ls:List ByteArray),u9 c->(∀ v∈ls,v∈ke)->k<n->ls.length+k<=100->∃ TH:List ByteArray,(TH.length<=100/\∀ v∈TH,v∈ke)/\∀ kf,dz N n kf c (fR ls) (k:Int)=kf (fR TH)
 |0,n,c,ls,hc,h,hn,hl=>by obtain⟨n,rfl⟩:∃ m,n=m+1:=⟨n - 1,by omega⟩;refine⟨ls,⟨by omega,h⟩,λkf=>?_⟩;unfold dz;rw[decide_eq_false (by omega)];rfl
 |k+1,n,c,ls,hc,h,hn,hl=>by
  obtain⟨n,rfl⟩:∃ m,n=m+1:=⟨n - 1,by omega⟩;obtain⟨v,c1,Ug,hv,e1⟩:=J7 (N:=N) c hc;have hs:=Cd h;have hvs:=(IW v hv).1;obtain⟨TH,h',e2⟩:=aer (N:=N) k n c1 (ls++[v]) Ug (λw hw=>by
   rcases List.mem_append.1 hw with hw |hw
   ·exact h w hw
   ·rw[List.mem_singleton.1 hw];exact hv) (by omega) (by simp;omega)
  refine⟨TH,h',λkf=>?_⟩;unfold dz;have hz:PZ.size=1:=rfl;rw[decide_eq_true (by omega),cond_true,e1,fit (by omega),cond_true,fit (by rw[dS,hz];omega),cond_true,TG,wrap64 (by omega) (by omega),show(((k+1:Nat):Int) - 1)=(k:Int) by omega,e2]
theorem ajs:∀ (d i n:Nat) (ls:List ByteArray),i+d=61->d<n->ls.length=i->(∀ v∈ls,v∈ke)->∃ TH:List ByteArray,(TH.length<=100/\∀ v∈TH,v∈ke)/\∀ kf,ef n kf (fR ls) (i:Int)=kf (fR TH)
 |0,i,n,ls,hi,hn,hl,h=>by obtain⟨n,rfl⟩:∃ m,n=m+1:=⟨n - 1,by omega⟩;refine⟨ls,⟨by omega,h⟩,λkf=>?_⟩;unfold ef;rw[decide_eq_false (by omega)];rfl
 |d+1,i,n,ls,hi,hn,hl,h=>by
  obtain⟨n,rfl⟩:∃ m,n=m+1:=⟨n - 1,by omega⟩;have hs:=Cd h;have hm:ue∈ke:=(by simp[ke]);obtain⟨TH,h',e2⟩:=ajs d (i+1) n (ls++[ue]) (by omega) (by omega) (by simp;omega) (λw hw=>by
   rcases List.mem_append.1 hw with hw |hw
   ·exact h w hw
   ·rw[List.mem_singleton.1 hw];exact hm)
  refine⟨TH,h',λkf=>?_⟩;unfold ef;have hz:xE.size=5:=rfl;have e3:fR ls++xE=fR (ls++[ue]):=(by rw[←TG];apply afH;simp only[M7,List.append_assoc];rfl);rw[decide_eq_true (by omega),cond_true,fit (by omega),cond_true,e3,wrap64 (by omega) (by omega)];exact e2 kf
theorem aap {N:Nat} {a:List Int} (ha:a.length<=1048576) (hN:4000<N):∃ ls:List ByteArray,(ls.length<=100/\∀ v∈ls,v∈ke)/\∀ kf,de N a kf=kf (fR ls):=by
 obtain⟨c,hc,e1⟩:=aag (N:=N) ha (by omega);obtain⟨b,c1,Ug,e2⟩:=once (N:=N) (n:=20) (by omega) (by omega) hc;have J:∀ (c:Uf) (ls:List ByteArray),u9 c->(∀ v∈ls,v∈ke)->ls.length<=4->∃ TH:List ByteArray,(TH.length<=100/\∀ v∈TH,v∈ke)/\∀ kf,j9 N kf c (fR ls)=kf (fR TH):=λc ls hc h hl=>by obtain⟨v,c2,Gx,hv,e3⟩:=below (N:=N) (n:=10) (by omega) (by omega) hc;obtain⟨k,rfl⟩:∃ k:Nat,v=(k:Int):=⟨v.toNat,by omega⟩;obtain⟨TH,h',e4⟩:=aer (N:=N) k N c2 ls Gx h (by omega) (by omega);refine⟨TH,h',λkf=>?_⟩;unfold j9;rw[e3,e4]
 cases b with
 |true=>obtain⟨TH,h',e3⟩:=ajs 61 0 N [] (by omega) (by omega) rfl (λv hv=>by cases hv);exact⟨TH,h',λkf=>by unfold de;rw[e1,e2];exact e3 kf⟩
 |false=>
 obtain⟨b2,c2,Gx,e3⟩:=once (N:=N) (n:=4) (by omega) (by omega) Ug;cases b2 with
 |true=>obtain⟨TH,h',e4⟩:=J c2 [] Gx (λv hv=>by cases hv) (by simp);exact⟨TH,h',λkf=>by unfold de;rw[e1,e2,cond_false,e3];exact e4 kf⟩
 |false=>
 obtain⟨TH,h',e4⟩:=J c2 [mv,mw,jo,KL] Gx (λv hv=>by
  simp only[List.mem_cons,List.not_mem_nil,or_false] at hv
  rcases hv with rfl |rfl |rfl |rfl<;>simp[ke]) (by simp)
 have e5:fR [mv,mw,jo,KL]=bD:=by apply afH;unfold fR;rw[DV];rfl
 rw[e5] at e4;exact⟨TH,h',λkf=>by unfold de;rw[e1,e2,cond_false,e3];exact e4 kf⟩
theorem aaq {N:Nat}:∀ (r:List ByteArray) (i:Nat) (c:ax) (o:List ByteArray),(∀ v∈r,VW N v)->Good c->o.length+r.length<=1000->∃ o':List ByteArray,o'.length=o.length+r.length/\∀ k:List ByteArray->Option aa,WK (λ(i:Nat) (x:ByteArray) (c:ax) (o:List ByteArray) (next:ax->List ByteArray->Option aa)=>bA N c x (λ(y:ax) (s:ByteArray)=>bif (decide ((length o+length [s])*1<=4398046511104)) then next y (o++[s]) else none)) (λ(c:ax) (o:List ByteArray)=>k o) r i c o=k o'
 |[],i,c,o,h,hc,hl=>⟨o,by simp,λk=>rfl⟩
 |x::r,i,c,o,h,hc,hl=>by simp only[List.length_cons] at hl;obtain⟨y,s,hy,_,_,e⟩:=h x (by simp) c hc;obtain⟨o',h1,h2⟩:=aaq r (i+1) y (o++[s]) (λv hv=>h v (by simp[hv])) hy (by simp;omega);refine⟨o',by rw[h1];simp;omega,λk=>?_⟩;simp only[WK];rw[e,decide_eq_true (by simp only[List.length_cons,List.length_nil];omega),cond_true];exact h2 k
theorem ajt {M N:Nat} (hM:2000<M) (hN:N=M+400) {ls:List ByteArray} (hl:ls.length<=100) (h:∀ v∈ls,v∈ke):∃ (o:List ByteArray) (b:Bool),((b=true/\o.length=ls.length)∨(b=false/\o.length=0/\60<ls.length))/\∀ kf,jG N (fR ls) kf=kf o b:=by
 have hm:=aq;have hz:=Cd h;have hs:=Xs h;have e32:w9 (fR ls) PZ=ls++[wh []]:=(afK _ 10).trans hs;have hc:(Nat.blt (ByteArray.size (fR ls)) 4294967281&&Nat.beq (ByteArray.size PZ) 1)=true:=by have h1:Nat.blt (ByteArray.size (fR ls)) 4294967281=true:=(by rw[Nat.blt_eq];omega);rw[h1];rfl
 have hlen:length (ls++[wh []])=ls.length+1:=by simp
 have hw:wrap .i64 ((length (ls++[wh []]):Int) - 1)=(ls.length:Int):=by rw[hlen,wrap64 (by omega) (by omega)];omega
 have hg:getD (ls++[wh []]) ls.length ByteArray.empty=wh []:=by simp
 have ht:List.drop (toNat (0:Int)) (List.take ls.length (ls++[wh []]))=ls:=by simp
 have hp:(ByteArray.toList (wh [])==ByteArray.toList EY)=true:=by kernel_rfl
 have key:∀ kf,jG N (fR ls) kf=kP N kf ls:=λkf=>by unfold jG S15;rw[hc,cond_true,e32];dsimp only;rw[hw,ai (by omega),cond_true,toNat_natCast,hg,hp,cond_true,ht,decide_eq_true (show(0:Int)<=0 by omega),decide_eq_true (show(0:Int)<=(ls.length:Int) by omega),decide_eq_true (show(ls.length:Int)<=(length (ls++[wh []]):Int) by omega)];rfl
 by_cases h60:60<ls.length
 ·exact⟨[],false,.inr ⟨rfl,rfl,h60⟩,λkf=>by rw[key];unfold kP;rw[decide_eq_true (by omega)];rfl⟩
 obtain⟨o,h1,h2⟩:=aaq (N:=N) ls 0 acE [] (λv hv=>by rw[hN];exact No (aao M hM) v (h v hv)) Pb (by simp;omega);refine⟨o,true,.inl ⟨rfl,by rw[h1];simp⟩,λkf=>?_⟩;rw[key];unfold kP zZ;rw[decide_eq_false (by omega),cond_false];dsimp only;rw[HC (by omega) (by omega)];exact h2 λo=>kf o true
theorem aes {N:Nat} {c:ax} {kf:Bool->Option aa} {K:Option aa} (hc:Good c) (hN:400<N):∀ (l:List ByteArray) (i:Nat),(∀ v∈l,ajq N v)->ud (λ(i:Nat) (x:ByteArray) (next:Option aa)=>bA N c x (λ(y:ax) (s:ByteArray)=>fv N c y (λ(b:Bool)=>bif (!b) then kf false else bif (ByteArray.toList s==ByteArray.toList EY) then kf false else next))) K l i=K
 |[],i,h=>rfl
 |x::r,i,h=>by obtain⟨s,hs,e⟩:=h x (by simp) c hc;simp only[ud];have yC:(ByteArray.toList s==ByteArray.toList EY)=false:=hs;rw[e,A4 (hc.ev hN).ok,Qc,yC];exact aes hc hN r (i+1) λv hv=>h v (by simp[hv])
theorem aju (M:Nat) (k:ByteArray->Option aa):cd (M+400) (λg=>mW (M+400) g k)=k aR:=by kernel_rfl
theorem Xt (a:List Int) (h:wfs [.sl (.int .u8)] (a,())):∃ N,∀ kf,L3 N a kf=kf true:=by
 obtain⟨M,hM⟩:∃ M:Nat,M=499600:=⟨_,rfl⟩;obtain⟨N,hN⟩:∃ N:Nat,N=M+400:=⟨_,rfl⟩;refine⟨N,λkf=>?_⟩;have hx:=aq;by_cases hb:(length a:Int)>1048576
 ·unfold L3 ak9 Dn;rw[decide_eq_true hb];rfl
 have ha:a.length<=1048576:=by omega
 have aar:∀ k:Bool->Option aa,Dn N a k=k false:=λk=>by unfold Dn;rw[decide_eq_false hb]
 obtain⟨c0,Ue,e0⟩:=aag (N:=N) ha (by omega);obtain⟨c,c1,Ug,hg,e1⟩:=UE (N:=N) (by omega) c0 Ue;obtain⟨line,c2,_,hl,e2⟩:=J7 (N:=N) c1 Ug;have d1:∀ k,iW N a k=k c line:=λk=>by unfold iW;rw[e0,e1,e2]
 have hL:VW N line:=by rw[hN];exact No (aao M (by omega)) line hl
 obtain⟨x,s,hgx,hs,Ey,e3⟩:=hL c hg;obtain⟨ls,⟨Us,hlm⟩,e4⟩:=aap (N:=N) ha (by omega);obtain⟨o,b,ho,e5⟩:=ajt (M:=M) (N:=N) (by omega) hN Us hlm;have hz:=Cd hlm;have yC:(ByteArray.toList s==ByteArray.toList EY)=false:=hs;have hq:(ByteArray.toList s==ByteArray.toList oZ)=true->∀ k,fv N x c k=k true:=λhw k=>by
  rcases Ey with rfl |rfl
  ·rw[A4 (hgx.ev (by omega)).ok,Qc]
  exact absurd hw (by decide+kernel)
 have h8:∀ (k1:Option aa) (k2:Bool->Option aa),J1 N a x acP (length acP:Int) N k1 k2 0=k1:=λk1 k2=>by have h11:acP.length=11:=rfl;rw[ak' (by omega) (by omega)];exact aes hgx (by omega) acP 0 λv hv=>by rw[hN];exact No (sk M (by omega)) v hv
 have Oe:∀ k:Int->Option aa,Fv (fR ls) o b N k 0 0=k (ls.length:Int):=λk=>by have pL:(fR ls).data.toList.length=(fR ls).size:=(Lib.size_eq _).symm;have:=TC (s:=fR ls) (c:=10) (k:=k) (f:=λn v i=>Fv (fR ls) o b n k v i) (by omega) (λn v i=>by simp only[Fv];rfl) (fR ls).data.toList 0 N 0 rfl (by omega) (Nat.le_refl _);rw[Nat.zero_add] at this;refine this.trans ?_;rw[←Xr hlm];rfl
 have hgr:∀ k,cd N (λg=>mW N g k)=k aR:=λk=>by rw[hN];exact aju M k
 have fin:∀ k1:Bool->Option aa,J1 N a x acP (length acP:Int) N (
    cd N (λ(SP:dG)=>
     mW N SP (λ(SQ:ByteArray)=>
      bif (!(ByteArray.toList SQ==ByteArray.toList aR)) then
       kf false
      else
       de N a (λ(Hv:ByteArray)=>
        jG N Hv (λ(uP:(List ByteArray)) (uQ:Bool)=>
         Fv Hv uP uQ N (λ(AN:Int)=>
          bif uQ then
           bif ((length uP:Int)==AN) then
            kf true
           else
            bif (!uQ) then
             bif ((length uP:Int)==(0:Int)) then
              kf (decide (AN>(60:Int)))
             else
              kf false
            else
             kf false
          else
           bif (!uQ) then
            bif ((length uP:Int)==(0:Int)) then
             kf (decide (AN>(60:Int)))
            else
             kf false
           else
            kf false) (0:Int) (0:Int)))))) k1 (0:Int)=kf true:=λk1=>by
  rw[h8,hgr,beq_self_eq_true]
  simp only[Bool.not_true,cond_false]
  rw[e4,e5,Oe]
  rcases ho with⟨rfl,Yg⟩ |⟨rfl,Yg,h60⟩
  ·rw[cond_true,Yg,beq_self_eq_true]
   rfl
  ·rw[Yg,decide_eq_true (by omega)]
   rfl
 unfold L3 ak9;rw[aar,cond_false,d1,e3];cases hw:(ByteArray.toList s==ByteArray.toList oZ) with
 |true=>rw[cond_true,hq hw,yC];simp only[Bool.not_true,cond_false];exact fin kf
 |false=>rw[cond_false,yC];exact fin kf
end Go.Pv.R
namespace Go.Pv.R
open List Int IntKind
end Go.Pv.R
namespace Go.Pv.R
open List Int IntKind
section
variable {M:Nat} {c:ax}
end
end Go.Pv.R
namespace Go.Pv.R
open List Int IntKind
section
variable {M:Nat} {c:ax}
end
end Go.Pv.R
namespace Go.Pv.R
open List Int IntKind
end Go.Pv.R
namespace Go.Pv.R
open List Int IntKind
end Go.Pv.R
namespace Go.Pv.R
open List Int IntKind
section
variable {M:Nat} {c:ax} {line:ByteArray}
end
end Go.Pv.R
namespace Go.Pv.R
open List Int IntKind
end Go.Pv.R
namespace Go.Pv.R
open List Int IntKind
end Go.Pv.R
