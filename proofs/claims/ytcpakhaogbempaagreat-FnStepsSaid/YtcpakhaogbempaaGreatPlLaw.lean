/- The law over the plain functions. -/
import Derived.Test.YtcpakhaogbempaaGreatPlHz
namespace Go.Pv.R
set_option linter.unusedVariables false
set_option linter.unusedSimpArgs false
end Go.Pv.R
namespace Go.Pv.R
set_option linter.unusedVariables false
set_option linter.unusedSimpArgs false
theorem mT {N:Nat} {a b c:Int} {kf:Bool→Option ab}:iP N a b c kf=kf (jn a b c):=by
 unfold iP jn
 by_cases h:b≤a<;>simp[h]
theorem oM {N:Nat} {a b c:Int} {kf:Bool→Option ab}:fR N a b c kf=kf (jn a b c):=by
 unfold fR jn
 by_cases h:b≤a<;>simp[h]
end Go.Pv.R
namespace Go.Pv.R
set_option linter.unusedVariables false
set_option linter.unusedSimpArgs false
theorem IH (a:Int):(a.tmod 2147483647=a%2147483647∧0≤a)∨(a.tmod 2147483647=-((-a)%2147483647)∧a<0):=by
 rcases Int.lt_or_le a 0 with h |h
 ·right
  refine⟨?_,h⟩
  have h1:(-a).tmod 2147483647=(-a)%2147483647:=Int.tmod_eq_emod_of_nonneg (by omega)
  rw[Int.neg_tmod] at h1
  omega
 ·exact .inl ⟨Int.tmod_eq_emod_of_nonneg h,h⟩
theorem ajy {N:Nat} {a:Int} {kf:Int→Option ab}:adV N a 2147483647 kf=kf (a%2147483647):=by
 unfold adV
 rw[mT,show jn 2147483647 1 1000000000000=true from by decide]
 have e:(decide ((2147483647:Int)=0))=false:=by decide
 simp only[Bool.not_true,cond_false,e,Bool.not_false,cond_true]
 congr 1
 rcases IH a with⟨h,h'⟩ |⟨h,h'⟩<;>rw[h,wrap64 (by omega) (by omega),Int.tmod_eq_emod_of_nonneg (by omega)]<;>omega
theorem ajz {N:Nat} {a:Int} {kf:Int→Option ab}:aiz N a 2147483647 kf=kf (a%2147483647):=by
 unfold aiz
 rw[oM,show jn 2147483647 1 1000000000000=true from by decide]
 have e:(decide ((2147483647:Int)=0))=false:=by decide
 simp only[Bool.not_true,cond_false,e,Bool.not_false,cond_true]
 rcases IH a with⟨h,h'⟩ |⟨h,h'⟩<;>rw[h]
 ·rw[decide_eq_false (by omega),cond_false]
 ·by_cases hz: -((-a)%2147483647)<0
  ·rw[decide_eq_true hz,cond_true,wrap64 (by omega) (by omega)]
   congr 1
   omega
  ·rw[decide_eq_false hz,cond_false]
   congr 1
   omega
def foldM (i:Nat) (x s:Int):Int:=Int.tmod (IntKind.wrap .i64 ((IntKind.wrap .i64 ((IntKind.wrap .i64 (s*(1000003:Int)))+x%2147483647))+(13:Int))) (2147483647:Int)
def ael (l:List Int):Int:=foldI foldM l 0 11
theorem ajA {N:Nat} {l:List Int} {kf:Int→Option ab} (hl:l.length≤maxLen) (hN:l.length<N):aiZ N l kf=kf (ael l):=by
 unfold aiZ
 rw[aab hl hN,Bl foldM (fun i x s next h e=>by rw[ajy];rfl)]
 rfl
theorem ajB {N:Nat} {l:List Int} {kf:Int→Option ab} (hl:l.length≤maxLen) (hN:l.length<N):aiB N l kf=kf (ael l):=by
 unfold aiB
 rw[ZS hl hN,Bl foldM (fun i x s next h e=>by unfold aiA;rw[ajz];rfl)]
 rfl
def C6 (s:Int) (x:QL):Int:=ael [s,x.1,x.2.1,x.2.2.1]
theorem Ww {N:Nat} {s:Int} {x:QL} {kf:Int→Option ab} (hN:4<N):Tg N s x kf=kf (C6 s x):=by
 unfold Tg
 rw[ajA (by rw[aN];simp) (by simpa using hN)]
 rfl
theorem Wx {N:Nat} {s:Int} {x:QL} {kf:Int→Option ab} (hN:4<N):SI N s x kf=kf (C6 s x):=by
 unfold SI
 rw[ajB (by rw[aN];simp) (by simpa using hN)]
 rfl
def OS:List QL→Nat→Int→Bool
 |[],_,_=>true
 |x::r,i,s=>(x.1==((i+1:Nat):Int))&&jn x.2.1 1 9&&jn x.2.2.1 0 99&&(x.2.2.2==C6 s x)&&OS r (i+1) x.2.2.2
def fF (l:List QL):Bool:=decide (l.length≤200)&&OS l 0 0
theorem Wy {N:Nat} {l:List QL} {kf:Bool→Option ab} (hl:l.length≤maxLen) (hN:l.length<N) (h4:4<N):adX N l kf=kf (fF l):=by
 unfold adX
 rw[aac hl hN]
 by_cases hc:l.length≤200
 ·have h1:(decide ((l.length:Int)≤200))=true:=decide_eq_true (by omega)
  have key:∀ (r:List QL) (i:Nat) (s:Int),l.drop i=r→c6 (fun(i:Nat) (x:QL) (aR:Int) (next:Int→Option ab)=>
    bif (decide ((List.length l:Int)≤(200:Int))) then
     Tg N aR x (fun(vB:Int)=>
      bif (x.1 != (IntKind.wrap .i64 ((i:Int)+(1:Int)))) then kf false
      else
       iP N x.2.1 (1:Int) (9:Int) (fun(OI:Bool)=>
        bif (!OI) then kf false
        else
         iP N x.2.2.1 (0:Int) (99:Int) (fun(OJ:Bool)=>
          bif (!OJ) then kf false
          else
           bif (x.2.2.2 != vB) then kf false
           else next vB)))
    else kf (decide ((List.length l:Int)≤(200:Int)))) (fun(aR:Int)=>kf (decide ((List.length l:Int)≤(200:Int)))) r i s=kf (OS r i s):=by
   intro r
   induction r with
   |nil=>intro i s _;simp only[c6,OS,h1]
   |cons x r ih=>
    intro i s hd
    have cZ:i<l.length:=by have:=congrArg List.length hd;simp at this;omega
    rw[List.drop_eq_getElem_cons cZ] at hd
    injection hd with e1 e2
    simp only[c6,OS]
    simp only[ih (i+1) _ e2]
    simp only[h1,cond_true,Ww h4,mT,hJ cZ hl]
    cases hx:(x.1==((i+1:Nat):Int)) with
    |false=>simp only[bne,hx,Bool.not_false,cond_true,Bool.false_and]
    |true=>
     simp only[bne,hx,Bool.not_true,cond_false,Bool.true_and]
     cases jn x.2.1 1 9<;>simp
     cases jn x.2.2.1 0 99<;>simp
     by_cases hs:x.2.2.2=C6 s x
     ·simp[hs]
     ·have:(x.2.2.2==C6 s x)=false:=by simpa using hs
      simp[this]
  refine Eq.trans (key l 0 0 rfl) ?_
  unfold fF
  simp[hc]
 ·have h1:(decide ((l.length:Int)≤200))=false:=decide_eq_false (by omega)
  cases l with
  |nil=>simp at hc
  |cons x r=>
   simp only[c6,h1,cond_false]
   unfold fF
   rw[decide_eq_false hc]
   rfl
theorem Kg {N:Nat} {l:List QL} {kf:Bool→Option ab} (hl:l.length≤maxLen) (hN:l.length<N) (h4:4<N):I75 N l kf=kf (fF l):=by
 unfold I75
 by_cases hc:l.length≤200
 ·have h1:(decide ((l.length:Int)>200))=false:=decide_eq_false (by omega)
  rw[h1,cond_false,ad7 hl hN]
  have key:∀ (r:List QL) (i:Nat) (s:Int),l.drop i=r→c6 (fun(i:Nat) (x:QL) (cj:Int) (next:Int→Option ab)=>
    bif (x.1 != (IntKind.wrap .i64 ((i:Int)+(1:Int)))) then kf false
    else
     fR N x.2.1 (1:Int) (9:Int) (fun(yo:Bool)=>
      bif (!yo) then kf false
      else
       fR N x.2.2.1 (0:Int) (99:Int) (fun(Oo:Bool)=>
        bif (!Oo) then kf false
        else
         SI N cj x (fun(Oq:Int)=>
          bif (x.2.2.2 != Oq) then kf false
          else next x.2.2.2)))) (fun(cj:Int)=>kf true) r i s=kf (OS r i s):=by
   intro r
   induction r with
   |nil=>intro i s _;simp only[c6,OS]
   |cons x r ih=>
    intro i s hd
    have cZ:i<l.length:=by have:=congrArg List.length hd;simp at this;omega
    rw[List.drop_eq_getElem_cons cZ] at hd
    injection hd with e1 e2
    simp only[c6,OS]
    simp only[ih (i+1) _ e2]
    simp only[Wx h4,oM,hJ cZ hl]
    cases hx:(x.1==((i+1:Nat):Int)) with
    |false=>simp only[bne,hx,Bool.not_false,cond_true,Bool.false_and]
    |true=>
     simp only[bne,hx,Bool.not_true,cond_false,Bool.true_and]
     cases jn x.2.1 1 9<;>simp
     cases jn x.2.2.1 0 99<;>simp
     by_cases hs:x.2.2.2=C6 s x
     ·simp[hs]
     ·have:(x.2.2.2==C6 s x)=false:=by simpa using hs
      simp[this]
  refine Eq.trans (key l 0 0 rfl) ?_
  unfold fF
  simp[hc]
 ·have h1:(decide ((l.length:Int)>200))=true:=decide_eq_true (by omega)
  rw[h1,cond_true]
  unfold fF
  rw[decide_eq_false hc]
  rfl
end Go.Pv.R
namespace Go.Pv
set_option linter.unusedVariables false
set_option linter.unusedSimpArgs false
theorem F7 {α:Type} {p:α→Bool}:∀ {l:List α} {i k:Nat},jk p l i=some k→∃ j,∃ h:j<l.length,k=i+j∧p l[j]=true∧∀ j' (h':j'<j),p (l[j']'(by omega))=false
 |[],i,k,h=>by cases h
 |x::r,i,k,h=>by
  simp only[jk] at h
  cases hp:p x with
  |true=>
   rw[hp] at h
   injection h with h
   exact⟨0,by simp,by omega,hp,fun j' h'=>by omega⟩
  |false=>
   rw[hp] at h
   obtain⟨j,hj,e,h1,h2⟩:=F7 (l:=r) h
   refine⟨j+1,by simpa using hj,by omega,h1,fun j' h'=>?_⟩
   cases j' with
   |zero=>exact hp
   |succ j'=>exact h2 j' (by omega)
theorem F8 {α:Type} {p:α→Bool}:∀ {l:List α} {i:Nat},jk p l i=none→∀ j (h:j<l.length),p l[j]=false
 |[],i,h,j,hj=>by simp at hj
 |x::r,i,h,j,hj=>by
  simp only[jk] at h
  cases hp:p x with
  |true=>rw[hp] at h;cases h
  |false=>
   rw[hp] at h
   cases j with
   |zero=>exact hp
   |succ j=>exact F8 (l:=r) h j (by simpa using hj)
theorem kP {α:Type} {body:Nat→α→Option ab→Option ab} {dw:Option ab} {kf:Nat→Option ab} {p:α→Bool} (hb:∀ (i:Nat) (x:α) (next:Option ab),body i x next=bif p x then kf i else next):∀ (l:List α) (i:Nat),lX body dw l i=match jk p l i with
  |some k=>kf k
  |none=>dw
 |[],_=>rfl
 |x::r,i=>by
  simp only[lX,jk]
  rw[hb]
  cases p x
  ·exact kP hb r (i+1)
  ·rfl
def gu {α:Type} (p:α→Bool) (l:List α):Int:=match jk p l 0 with
 |some k=>(k:Int)
 |none=>-1
theorem ck {α:Type} {p:α→Bool} {l:List α} (h: ¬gu p l<0):∃ k:Nat,∃ hk:k<l.length,gu p l=(k:Int)∧p l[k]=true∧∀ j (hj:j<k),p (l[j]'(by omega))=false:=by
 unfold gu at*
 split at h
 ·rename_i k hk
  obtain⟨j,hj,e,h1,h2⟩:=F7 hk
  obtain rfl:k=j:=by omega
  exact⟨k,hj,rfl,h1,h2⟩
 ·omega
theorem uF {α:Type} {p:α→Bool} {l:List α} (h:gu p l<0):gu p l=-1∧∀ j (hj:j<l.length),p l[j]=false:=by
 unfold gu at*
 split at h
 ·omega
 ·rename_i hn
  exact⟨rfl,F8 hn⟩
theorem F9 {α:Type} {p q:Nat→α→Bool}:∀ {l:List α} {i:Nat},allI (fun i x=>p i x&&q i x) l i=(allI p l i&&allI q l i)
 |[],_=>rfl
 |x::r,i=>by
  simp only[allI,F9 (l:=r)]
  cases p i x<;>cases q i x<;>cases allI p r (i+1)<;>simp
theorem Tt {α:Type} {p q:Nat→α→Bool} {l:List α} (h:∀ (j:Nat) (hj:j<l.length),p j l[j]=q j l[j]):allI p l 0=allI q l 0:=by
 apply Bool.eq_iff_iff.2
 rw[gg,gg]
 constructor
 ·intro h1 j hj;have:=h1 j hj;rw[Nat.zero_add] at*;rw[←h j hj];exact this
 ·intro h1 j hj;have:=h1 j hj;rw[Nat.zero_add] at*;rw[h j hj];exact this
theorem pV {i m:Nat} (h0:0<i) (h:i<m) (hm:m≤maxLen):IntKind.wrap .i64 ((i:Int) - 1)=((i - 1:Nat):Int):=by
 have:=aN
 rw[wrap64]<;>omega
end Go.Pv
namespace Go.Pv.R
set_option linter.unusedVariables false
set_option linter.unusedSimpArgs false
abbrev aH:=QT
def aI (l:List aH) (id:Int):Int:=gu (fun x:aH=>x.1==id) l
theorem kQ {N:Nat} {l:List aH} {id:Int} {kf:Int→Option ab} (hl:l.length≤maxLen) (hN:l.length<N):wC N l id kf=kf (aI l id):=by
 unfold wC
 rw[Z4 hl hN,kP (p:=fun x:aH=>x.1==id) (kf:=fun i=>kf (i:Int)) (fun i x next=>rfl)]
 unfold aI gu
 cases jk (fun x:aH=>x.1==id) l 0<;>rfl
theorem lB {N:Nat} {l:List aH} {id:Int} {kf:Int→Option ab} (hl:l.length≤maxLen) (hN:l.length<N):HN N l id kf=kf (aI l id):=by
 unfold HN ark
 rw[ZR hl hN]
 simp only[aix]
 rw[kP (p:=fun x:aH=>x.1==id) (kf:=fun i=>kf (i:Int)) (fun i x next=>rfl)]
 unfold aI gu
 cases jk (fun x:aH=>x.1==id) l 0<;>rfl
def nJ (l:List Int) (n:Int):Int:=foldI (fun i x s=>bif x==n then IntKind.wrap .i64 (s+1) else s) l 0 0
theorem Wz {N:Nat} {l:List Int} {n:Int} {kf:Int→Option ab} (hl:l.length≤maxLen) (hN:l.length<N):S8 N l n kf=kf (nJ l n):=by
 unfold S8
 rw[Z5 hl hN,Bl (fun i x s=>bif x==n then IntKind.wrap .i64 (s+1) else s) (fun i x s next h e=>by cases x==n<;>rfl)]
 rfl
theorem Tu {N:Nat} {l:List Int} {n:Int} {kf:Int→Option ab} (hl:l.length≤maxLen) (hN:l.length<N):I78 N l n kf=kf (nJ l n):=by
 unfold I78
 rw[ad8 hl hN,Bl (fun i x s=>bif x==n then IntKind.wrap .i64 (s+1) else s) (fun i x s next h e=>by cases x==n<;>rfl)]
 rfl
abbrev aH.met (x:aH):List Int:=x.2.2.2.2.2
def jY (l:List aH) (i:Nat) (x:aH):Bool:=jn x.1 1 99&&(jn x.2.1 1 99&&(jn x.2.2.1 0 x.met.length&&(jn x.2.2.2.2.1 0 x.met.length&&(jn x.2.2.2.1 0 100000&&(decide (x.met.length≤20)&&(decide (i=0)||decide ((l.getD (i - 1) aC).1<x.1)))))))
def HO (l:List aH) (x:aH) (id:Int):Bool:=!decide (aI l id<0)&&(!(id==x.1)&&(nJ x.met id==nJ (l.getD (aI l id).toNat aC).met x.1))
def aK (l:List aH):Bool:=decide (l.length≤10)&&(allI (jY l) l 0&&allI (fun _ x=>x.met.all (HO l x)) l 0)
def Kh (l:List aH) (i:Nat) (x:aH) (id:Int):Bool:=!decide (aI l id<0)&&(!(aI l id==(i:Int))&&(nJ (l.getD (aI l id).toNat aC).met x.1==nJ x.met (l.getD (aI l id).toNat aC).1))
theorem yB {α:Type} {p:α→Bool}:∀ {l:List α} {i:Nat},allI (fun _ x=>p x) l i=l.all p
 |[],_=>rfl
 |x::r,i=>by simp only[allI,List.all_cons,yB (l:=r)]
theorem rM {l:List aH} (h:allI (jY l) l 0=true):∀ (j i:Nat) (hi:i<l.length),j<i→(l.getD j aC).1<l[i].1:=by
 rw[gg] at h
 have step:∀ (i:Nat) (hi:i<l.length),0<i→(l.getD (i - 1) aC).1<l[i].1:=fun i hi h0=>by
  have:=h i hi
  rw[Nat.zero_add] at this
  simp only[jY,Bool.and_eq_true,Bool.or_eq_true,decide_eq_true_eq] at this
  omega
 intro j i hi mn
 induction i with
 |zero=>omega
 |succ i ih=>
  have h1:=step (i+1) hi (by omega)
  rw[Nat.add_sub_cancel,ax _ _ (show i<l.length by omega)] at h1
  rcases Nat.lt_or_eq_of_le (Nat.le_of_lt_succ mn) with h2 |rfl
  ·have:=ih (by omega) h2;omega
  ·rw[ax _ _ (by omega)];exact h1
theorem F' {l:List aH} (h:allI (jY l) l 0=true) {i:Nat} (hi:i<l.length) {id:Int}:aI l id=(i:Int)↔id=l[i].1:=by
 constructor
 ·intro e
  obtain⟨k,hk,e1,h1,_⟩:=ck (p:=fun x:aH=>x.1==id) (l:=l) (by unfold aI at e;omega)
  unfold aI at e
  obtain rfl:k=i:=by omega
  exact(beq_iff_eq.1 h1).symm
 ·rintro rfl
  unfold aI
  by_cases hn:gu (fun x:aH=>x.1==l[i].1) l<0
  ·have:=(uF hn).2 i hi
   simp at this
  ·obtain⟨k,hk,e1,h1,h2⟩:=ck hn
   rw[e1]
   have h1:l[k].1=l[i].1:=by simpa using h1
   rcases Nat.lt_trichotomy k i with cZ |rfl |cZ
   ·have:=rM h k i hi cZ
    rw[ax _ _ hk] at this
    omega
   ·rfl
   ·have:=h2 i cZ
    simp at this
theorem ajC {l:List aH} (h:allI (jY l) l 0=true) {i:Nat} (hi:i<l.length) (id:Int):Kh l i l[i] id=HO l l[i] id:=by
 unfold Kh HO
 by_cases hn:aI l id<0
 ·simp[hn]
 ·rw[decide_eq_false hn,Bool.not_false,Bool.true_and,Bool.true_and]
  have e1:(aI l id==(i:Int))=(id==l[i].1):=by
   apply Bool.eq_iff_iff.2
   rw[beq_iff_eq,beq_iff_eq]
   exact F' h hi
  rw[e1]
  obtain⟨k,hk,e2,h2,_⟩:=ck (p:=fun x:aH=>x.1==id) hn
  have e3:aI l id=(k:Int):=e2
  rw[e3,Int.toNat_natCast,ax _ _ hk,show l[k].1=id by simpa using h2]
  congr 1
  apply Bool.eq_iff_iff.2
  rw[beq_iff_eq,beq_iff_eq]
  exact⟨fun h=>h.symm,fun h=>h.symm⟩
theorem OU (l:List aH):(allI (fun i x=>jY l i x&&x.met.all (Kh l i x)) l 0&&decide (l.length≤10))=aK l:=by
 unfold aK
 rw[F9]
 cases h:allI (jY l) l 0 with
 |false=>simp
 |true=>
  have:allI (fun i x=>x.met.all (Kh l i x)) l 0=allI (fun _ x=>x.met.all (HO l x)) l 0:=Tt fun j hj=>by
   congr 1
   funext id
   exact ajC h hj id
  rw[this]
  cases decide (l.length≤10)<;>simp
theorem lO {N:Nat} {l:List aH} {kf:Bool→Option ab} (hl:l.length≤maxLen) (hm:∀ x∈l,x.met.length≤maxLen∧x.met.length<N) (hN:l.length<N):vf N l kf=kf (aK l):=by
 unfold vf
 rw[Z7 hl hN,iq (l:=l) (p:=fun i x=>jY l i x&&x.met.all (Kh l i x)) (kf:=kf false) (fun i x next h e=>?_) l 0 rfl,←OU]
 ·cases allI (fun i x=>jY l i x&&x.met.all (Kh l i x)) l 0
  ·rfl
  ·simp only[cond_true,Bool.true_and]
   congr 1
   apply Bool.eq_iff_iff.2
   simp
   omega
 ·have hx:x∈l:=by rw[←e];exact List.getElem_mem h
  obtain⟨m1,m2⟩:=hm x hx
  have inner:kM N l (i:Int) x N next kf (0:Int)=bif x.met.all (Kh l i x) then next else kf false:=by
   rw[Z6 m1 m2,iq (l:=x.met) (p:=fun _ id=>Kh l i x id) (kf:=kf false) (fun j id next' hj ej=>?_) x.met 0 rfl,yB]
   rw[kQ hl hN]
   unfold Kh
   by_cases hn:aI l id<0
   ·simp[hn]
   ·rw[decide_eq_false hn,cond_false,Bool.not_false,Bool.true_and]
    cases hf:aI l id==(i:Int)
    ·obtain⟨k,hk,e2,h2,_⟩:=ck (p:=fun x:aH=>x.1==id) hn
     have e3:aI l id=(k:Int):=e2
     obtain⟨q1,q2⟩:=hm l[k] (List.getElem_mem hk)
     rw[cond_false,e3,aG hk,cond_true,cond_true,Int.toNat_natCast,ax _ _ hk,Wz q1 q2,Wz m1 m2]
     cases hc:(nJ l[k].met x.1==nJ x.met l[k].1)<;>simp[bne,hc]
    ·simp
  have ord:∀ A B:Option ab,(bif (decide ((i:Int)>(0:Int))) then
    bif (bC (IntKind.wrap .i64 ((i:Int) - (1:Int))) (List.length l)) then
     bif (decide ((List.getD l (Int.toNat (IntKind.wrap .i64 ((i:Int) - (1:Int)))) aC).1≥x.1)) then A else B
    else none
   else B)=bif (decide (i=0)||decide ((l.getD (i - 1) aC).1<x.1)) then B else A:=fun A B=>by
   by_cases h0:i=0
   ·subst h0;simp
   ·rw[decide_eq_true (show(i:Int)>0 by omega),cond_true,pV (by omega) h hl,aG (by omega),cond_true,Int.toNat_natCast,decide_eq_false h0,Bool.false_or]
    by_cases hc:(l.getD (i - 1) aC).1<x.1
    ·rw[decide_eq_false (by omega),decide_eq_true hc];rfl
    ·rw[decide_eq_true (by omega),decide_eq_false hc];rfl
  simp only[mT,inner,ord]
  unfold jY
  cases jn x.1 1 99<;>simp
  cases jn x.2.1 1 99<;>simp
  cases jn x.2.2.1 0 x.met.length<;>simp
  cases jn x.2.2.2.2.1 0 x.met.length<;>simp
  cases jn x.2.2.2.1 0 100000<;>simp
  by_cases C7:x.met.length≤20
  ·rw[decide_eq_false (show ¬(20:Int)<(x.met.length:Int) by omega),decide_eq_true C7]
   simp
   cases (decide (i=0)||decide ((l[i - 1]?.getD aC).1<x.1))<;>simp
  ·rw[decide_eq_true (show(20:Int)<(x.met.length:Int) by omega),decide_eq_false C7]
   simp
theorem mU {N:Nat} {l:List aH} {kf:Bool→Option ab} (hl:l.length≤maxLen) (hm:∀ x∈l,x.met.length≤maxLen∧x.met.length<N) (hN:l.length<N):Bt N l kf=kf (aK l):=by
 unfold Bt
 by_cases h10:l.length≤10
 rotate_left
 ·rw[decide_eq_true (by omega),cond_true]
  unfold aK
  rw[decide_eq_false h10]
  rfl
 rw[decide_eq_false (by omega),cond_false]
 rw[ZT hl hN,iq (l:=l) (p:=fun i x=>jY l i x&&x.met.all (HO l x)) (kf:=kf false) (fun i x next h e=>?_) l 0 rfl]
 ·unfold aK
  rw[decide_eq_true h10,Bool.true_and,F9]
  cases (allI (jY l) l 0&&allI (fun _ x=>x.met.all (HO l x)) l 0)<;>rfl
 ·have hx:x∈l:=by rw[←e];exact List.getElem_mem h
  obtain⟨m1,m2⟩:=hm x hx
  have inner:jo N l x l (List.length l:Int) (i:Int) x.2.2.2.2.2 (List.length x.2.2.2.2.2:Int) N next kf (0:Int)=bif x.met.all (HO l x) then next else kf false:=by
   rw[Tq m1 m2,iq (l:=x.met) (p:=fun _ id=>HO l x id) (kf:=kf false) (fun j id next' hj ej=>?_) x.met 0 rfl,yB]
   rw[lB hl hN]
   unfold HO
   by_cases hn:aI l id<0
   ·simp[hn]
   ·rw[decide_eq_false hn,cond_false,Bool.not_false,Bool.true_and]
    cases hf:id==x.1
    ·obtain⟨k,hk,e2,h2,_⟩:=ck (p:=fun x:aH=>x.1==id) hn
     have e3:aI l id=(k:Int):=e2
     obtain⟨q1,q2⟩:=hm l[k] (List.getElem_mem hk)
     rw[cond_false,e3,aG hk,cond_true,Int.toNat_natCast,ax _ _ hk,Tu m1 m2,Tu q1 q2]
     cases hc:(nJ x.met id==nJ l[k].met x.1)<;>simp[bne,hc]
    ·simp
  have ord:∀ A B:Option ab,(bif (decide ((i:Int)>(0:Int))) then
    bif (bC (IntKind.wrap .i64 ((i:Int) - (1:Int))) (List.length l)) then
     bif (decide (x.1≤(List.getD l (Int.toNat (IntKind.wrap .i64 ((i:Int) - (1:Int)))) aC).1)) then A else B
    else none
   else B)=bif (decide (i=0)||decide ((l.getD (i - 1) aC).1<x.1)) then B else A:=fun A B=>by
   by_cases h0:i=0
   ·subst h0;simp
   ·rw[decide_eq_true (show(i:Int)>0 by omega),cond_true,pV (by omega) h hl,aG (by omega),cond_true,Int.toNat_natCast,decide_eq_false h0,Bool.false_or]
    by_cases hc:(l.getD (i - 1) aC).1<x.1
    ·rw[decide_eq_false (by omega),decide_eq_true hc];rfl
    ·rw[decide_eq_true (by omega),decide_eq_false hc];rfl
  simp only[oM,inner,ord]
  unfold jY
  cases jn x.1 1 99<;>simp
  cases (decide (i=0)||decide ((l[i - 1]?.getD aC).1<x.1))<;>simp
  cases jn x.2.1 1 99<;>simp
  by_cases C7:x.met.length≤20
  ·rw[decide_eq_false (show ¬(20:Int)<(x.met.length:Int) by omega),decide_eq_true C7]
   simp
   cases jn x.2.2.1 0 x.met.length<;>simp
   cases jn x.2.2.2.2.1 0 x.met.length<;>simp
   cases jn x.2.2.2.1 0 100000<;>simp
  ·rw[decide_eq_true (show(20:Int)<(x.met.length:Int) by omega),decide_eq_false C7]
   simp
end Go.Pv.R
namespace Go.Pv
set_option linter.unusedVariables false
set_option linter.unusedSimpArgs false
def ir {α β:Type} (c:Nat→α→Bool) (f:Nat→α→β):List α→Nat→List β
 |[],_=>[]
 |x::r,i=>bif c i x then f i x::ir c f r (i+1) else ir c f r (i+1)
theorem C8 {α β:Type} {c:Nat→α→Bool} {f:Nat→α→β}:∀ (l:List α) (i:Nat),(ir c f l i).length≤l.length
 |[],_=>Nat.le_refl _
 |x::r,i=>by
  simp only[ir]
  have:=C8 (c:=c) (f:=f) r (i+1)
  cases c i x<;>simp<;>omega
theorem l6 {α β:Type} {body:Nat→α→List β→(List β→Option ab)→Option ab} {dw:List β→Option ab} {c:Nat→α→Bool} {f:Nat→α→β} {l:List α}
  (hb:∀ (i:Nat) (x:α) (s:List β) (next:List β→Option ab) (h:i<l.length),l[i]=x→s.length≤i→body i x s next=bif c i x then next (s++[f i x]) else next s):
  ∀ (r:List α) (i:Nat) (s:List β),l.drop i=r→s.length≤i→c6 body dw r i s=dw (s++ir c f r i)
 |[],i,s,_,_=>by simp[c6,ir]
 |x::r,i,s,hd,hs=>by
  have cZ:i<l.length:=by have:=congrArg List.length hd;simp at this;omega
  rw[List.drop_eq_getElem_cons cZ] at hd
  injection hd with h1 h2
  simp only[c6,ir]
  rw[hb i x s _ cZ h1 hs]
  cases c i x
  ·rw[cond_false,cond_false]
   exact l6 hb r (i+1) s h2 (by omega)
  ·rw[cond_true,cond_true,l6 hb r (i+1) (s++[f i x]) h2 (by simp;omega)]
   simp
theorem uG {α:Type} (p:α→Bool) (l:List α):decide (gu p l≥0)=l.any p:=by
 by_cases h:gu p l<0
 ·rw[decide_eq_false (by omega)]
  symm
  rw[List.any_eq_false]
  intro x hx
  obtain⟨j,hj,rfl⟩:=List.mem_iff_getElem.1 hx
  rw[(uF h).2 j hj]
  simp
 ·rw[decide_eq_true (by omega)]
  symm
  rw[List.any_eq_true]
  obtain⟨k,hk,_,h1,_⟩:=ck h
  exact⟨l[k],List.getElem_mem hk,h1⟩
theorem BB (n:Int):∀ (l:List Int) (i:Nat) (s:Nat),s+l.length≤maxLen→foldI (fun _ x s=>bif x==n then IntKind.wrap .i64 (s+1) else s) l i (s:Int)=((s+l.count n:Nat):Int)
 |[],_,_,_=>by simp[foldI]
 |x::r,i,s,h=>by
  simp only[foldI,List.count_cons]
  simp only[List.length_cons] at h
  have:=aN
  cases hx:x==n with
  |false=>simp only[cond_false];rw[BB n r (i+1) s (by omega)];simp
  |true=>
   simp only[cond_true,if_true]
   rw[wrap64 (by omega) (by omega),show((s:Int)+1)=((s+1:Nat):Int) by omega,BB n r (i+1) (s+1) (by omega)]
   congr 1
   omega
theorem Ga {b:List Int} (hb:b.Nodup):∀ (a:List Int),(∀ x∈a,x∈b)→(b.map fun x=>a.count x).sum=a.length
 |[],_=>by
  have:∀ l:List Int,(l.map fun x=>([]:List Int).count x).sum=0:=by
   intro l
   induction l with
   |nil=>rfl
   |cons x r ih=>rw[List.map_cons,List.sum_cons,ih];simp
  rw[this];rfl
 |y::a,h=>by
  have ih:=Ga hb a (fun x hx=>h x (by simp[hx]))
  have hy:=h y (by simp)
  have key:∀ l:List Int,(l.map fun x=>(y::a).count x).sum=(l.map fun x=>a.count x).sum+l.count y:=by
   intro l
   induction l with
   |nil=>rfl
   |cons x r ihl=>
    rw[List.map_cons,List.sum_cons,ihl,List.map_cons,List.sum_cons,List.count_cons,List.count_cons]
    by_cases AM:y=x
    ·subst AM;simp;omega
    ·have h1:(y==x)=false:=by simpa using AM
     have h2:(x==y)=false:=by simpa using fun e=>AM e.symm
     rw[h1,h2];simp;omega
  rw[key,ih,List.length_cons]
  have:b.count y=1:=by
   have h1:=List.count_pos_iff.2 hy
   have h2:=List.nodup_iff_count.1 hb y
   omega
  omega
theorem ajD {b:List Int} {f:Int→Nat} (h1:∀ x∈b,f x≤1) (h2:(b.map f).sum=b.length):∀ x∈b,f x=1:=by
 have le:∀ l:List Int,(∀ x∈l,f x≤1)→(l.map f).sum≤l.length:=by
  intro l
  induction l with
  |nil=>intro _;simp
  |cons x r ih=>intro h;have:=ih (fun y hy=>h y (by simp[hy]));have:=h x (by simp);simp;omega
 induction b with
 |nil=>intro x hx;cases hx
 |cons y r ih=>
  have hr:=le r (fun x hx=>h1 x (by simp[hx]))
  have hy:=h1 y (by simp)
  simp only[List.map_cons,List.sum_cons,List.length_cons] at h2
  intro x hx
  rcases List.mem_cons.1 hx with rfl |hx
  ·omega
  ·exact ih (fun x hx=>h1 x (by simp[hx])) (by omega) x hx
theorem OV {a b:List Int} (hb:b.Nodup) (h:∀ x∈a,x∈b):(∀ x∈b,a.count x=1)↔a.Nodup∧a.length=b.length:=by
 have hs:=Ga hb a h
 constructor
 ·intro h1
  refine⟨List.nodup_iff_count.2 fun x=>?_,?_⟩
  ·by_cases hx:x∈a
   ·rw[h1 x (h x hx)];exact Nat.le_refl _
   ·rw[List.count_eq_zero_of_not_mem hx];omega
  ·have key:∀ l:List Int,(∀ x∈l,a.count x=1)→(l.map fun x=>a.count x).sum=l.length:=by
    intro l
    induction l with
    |nil=>intro _;rfl
    |cons x r ih=>intro h;simp[ih (fun y hy=>h y (by simp[hy])),h x (by simp)];omega
   rw[key b h1] at hs
   exact hs.symm
 ·intro ⟨h1,h2⟩
  exact ajD (fun x _=>List.nodup_iff_count.1 h1 x) (by rw[hs,h2])
end Go.Pv
namespace Go.Pv.R
set_option linter.unusedVariables false
set_option linter.unusedSimpArgs false
abbrev bD:=QJ
abbrev cS:=cg
theorem BC {l:List Int} {n:Int} (h:l.length≤maxLen):nJ l n=(l.count n:Int):=by
 have:=BB n l 0 0 (by omega)
 rw[Nat.zero_add] at this
 exact this
def mV (l:List Int) (n:Int):Bool:=l.any fun x=>x==n
theorem l7 {l:List Int} {n:Int}:mV l n=true↔n∈l:=by
 unfold mV
 rw[List.any_eq_true]
 constructor
 ·rintro⟨x,hx,h⟩
  have:x=n:=by simpa using h
  exact this▸hx
 ·intro h;exact⟨n,h,by simp⟩
theorem rO {N:Nat} {l:List Int} {n:Int} {kf:Bool→Option ab} (hl:l.length≤maxLen) (hN:l.length<N):wD N l n kf=kf (mV l n):=by
 unfold wD
 rw[Z9 hl hN,kP (p:=fun x:Int=>x==n) (kf:=fun _=>kf true) (fun i x next=>rfl)]
 unfold mV
 rw[←uG]
 unfold gu
 cases jk (fun x:Int=>x==n) l 0
 ·rfl
 ·rw[decide_eq_true (by simp)]
theorem Ki {N:Nat} {l:List Int} {n:Int} {kf:Bool→Option ab} (hl:l.length≤maxLen) (hN:l.length<N):S82 N l n kf=kf (mV l n):=by
 unfold S82 SQ
 rw[IG hl hN,kP (p:=fun x:Int=>n==x) (kf:=fun i=>kf (decide ((i:Int)≥0))) (fun i x next=>rfl)]
 have e:mV l n=l.any fun x=>n==x:=by
  unfold mV
  congr 1
  funext x
  apply Bool.eq_iff_iff.2
  rw[beq_iff_eq,beq_iff_eq]
  exact⟨fun h=>h.symm,fun h=>h.symm⟩
 rw[e,←uG]
 unfold gu
 cases jk (fun x:Int=>n==x) l 0<;>rfl
def dd (l:List bD) (id:Int):Int:=gu (fun x:bD=>x.1==id) l
theorem WA {N:Nat} {l:List bD} {id:Int} {kf:Int→Option ab} (hl:l.length≤maxLen) (hN:l.length<N):FT N l id kf=kf (dd l id):=by
 unfold FT
 rw[aaf hl hN,kP (p:=fun x:bD=>x.1==id) (kf:=fun i=>kf (i:Int)) (fun i x next=>rfl)]
 unfold dd gu
 cases jk (fun x:bD=>x.1==id) l 0<;>rfl
theorem ar3 {N:Nat} {l:List bD} {id:Int} {kf:Int→Option ab} (hl:l.length≤maxLen) (hN:l.length<N):S80 N l id kf=kf (dd l id):=by
 unfold S80
 rw[aeb hl hN]
 simp only[I81]
 rw[kP (p:=fun x:bD=>x.1==id) (kf:=fun i=>kf (i:Int)) (fun i x next=>rfl)]
 unfold dd gu
 cases jk (fun x:bD=>x.1==id) l 0<;>rfl
theorem WB {N:Nat} {l:List bD} {id:Int} {kf:Int→Option ab} (hl:l.length≤maxLen) (hN:l.length<N):SX N l id kf=kf (dd l id):=by
 unfold SX ars
 rw[ZW hl hN]
 simp only[aiH]
 rw[kP (p:=fun x:bD=>x.1==id) (kf:=fun i=>kf (i:Int)) (fun i x next=>rfl)]
 unfold dd gu
 cases jk (fun x:bD=>x.1==id) l 0<;>rfl
def OW (s:List Int):Bool:=allI (fun i y=>jn y 1 99&&(decide (i=0)||decide (s.getD (i - 1) 0<y))) s 0
def o7 (l:List bD) (i:Nat) (x:bD):Bool:=jn x.1 1 99&&(jn x.2.1 1 99&&((decide (i=0)||decide ((l.getD (i - 1) cY).1<x.1))&&OW x.2.2))
def cz (l:List bD):Bool:=decide (l.length≤10)&&allI (o7 l) l 0
theorem Tv {α:Type} {l:List α} {i:Nat} {z:α} {g:α→Int} {y:Int} {A B:Option ab} (hi:i<l.length) (hl:l.length≤maxLen):(bif (decide ((i:Int)>(0:Int))) then
    bif (bC (IntKind.wrap .i64 ((i:Int) - (1:Int))) (List.length l)) then
     bif (decide (y≤g (List.getD l (Int.toNat (IntKind.wrap .i64 ((i:Int) - (1:Int)))) z))) then A else B
    else none
   else B)=bif (decide (i=0)||decide (g (l.getD (i - 1) z)<y)) then B else A:=by
 by_cases h0:i=0
 ·subst h0;simp
 ·rw[decide_eq_true (show(i:Int)>0 by omega),cond_true,pV (by omega) hi hl,aG (by omega),cond_true,Int.toNat_natCast,decide_eq_false h0,Bool.false_or]
  by_cases hc:g (l.getD (i - 1) z)<y
  ·rw[decide_eq_false (by omega),decide_eq_true hc];rfl
  ·rw[decide_eq_true (by omega),decide_eq_false hc];rfl
theorem WC {α:Type} {l:List α} {i:Nat} {z:α} {g:α→Int} {y:Int} {A B:Option ab} (hi:i<l.length) (hl:l.length≤maxLen):(bif (decide ((i:Int)>(0:Int))) then
    bif (bC (IntKind.wrap .i64 ((i:Int) - (1:Int))) (List.length l)) then
     bif (decide (g (List.getD l (Int.toNat (IntKind.wrap .i64 ((i:Int) - (1:Int)))) z)≥y)) then A else B
    else none
   else B)=bif (decide (i=0)||decide (g (l.getD (i - 1) z)<y)) then B else A:=Tv hi hl
theorem Kj {N:Nat} {l:List bD} {kf:Bool→Option ab} (hl:l.length≤maxLen) (hm:∀ x∈l,x.2.2.length≤maxLen∧x.2.2.length<N) (hN:l.length<N):ZG N l kf=kf (cz l):=by
 unfold ZG
 rw[aaa hl hN,iq (l:=l) (p:=o7 l) (kf:=kf false) (fun i x next h e=>?_) l 0 rfl]
 ·unfold cz
  cases allI (o7 l) l 0
  ·simp
  ·simp only[cond_true,Bool.and_true]
   congr 1
   apply Bool.eq_iff_iff.2
   simp
   omega
 ·have hx:x∈l:=by rw[←e];exact List.getElem_mem h
  obtain⟨m1,m2⟩:=hm x hx
  have inner:jD N l (i:Int) N next kf (0:Int)=bif OW x.2.2 then next else kf false:=by
   have hg:List.getD l (Int.toNat (i:Int)) cY=x:=by rw[Int.toNat_natCast,ax _ _ h,e]
   rw[Z' (aG h) (by rw[hg];exact m1) (by rw[hg];exact m2)]
   simp only[hg]
   rw[iq (l:=x.2.2) (p:=fun i y=>jn y 1 99&&(decide (i=0)||decide (x.2.2.getD (i - 1) 0<y))) (kf:=kf false) (fun j y next' hj ej=>?_) x.2.2 0 rfl]
   ·rfl
   ·rw[mT]
    have:=WC (l:=x.2.2) (z:=(0:Int)) (g:=fun x=>x) (y:=y) (A:=kf false) (B:=next') hj m1
    rw[this]
    cases jn y 1 99<;>simp
  simp only[mT,inner]
  have ho:=fun A B=>WC (l:=l) (z:=cY) (g:=fun x=>x.1) (y:=x.1) (A:=A) (B:=B) h hl
  simp only[ho]
  unfold o7
  cases jn x.1 1 99<;>simp
  cases jn x.2.1 1 99<;>simp
  cases (decide (i=0)||decide ((l[i - 1]?.getD cY).1<x.1))<;>simp
theorem Tw {N:Nat} {l:List bD} {kf:Bool→Option ab} (hl:l.length≤maxLen) (hm:∀ x∈l,x.2.2.length≤maxLen∧x.2.2.length<N) (hN:l.length<N):I79 N l kf=kf (cz l):=by
 unfold I79
 by_cases h10:l.length≤10
 rotate_left
 ·rw[decide_eq_true (by omega),cond_true]
  unfold cz
  rw[decide_eq_false h10]
  rfl
 rw[decide_eq_false (by omega),cond_false]
 rw[ad' hl hN,iq (l:=l) (p:=o7 l) (kf:=kf false) (fun i x next h e=>?_) l 0 rfl]
 ·unfold cz
  rw[decide_eq_true h10,Bool.true_and]
  cases allI (o7 l) l 0<;>rfl
 ·have hx:x∈l:=by rw[←e];exact List.getElem_mem h
  obtain⟨m1,m2⟩:=hm x hx
  have inner:nC N l x l (List.length l:Int) (i:Int) x.2.2 (List.length x.2.2:Int) N next kf (0:Int)=bif OW x.2.2 then next else kf false:=by
   rw[ad9 m1 m2]
   rw[iq (l:=x.2.2) (p:=fun i y=>jn y 1 99&&(decide (i=0)||decide (x.2.2.getD (i - 1) 0<y))) (kf:=kf false) (fun j y next' hj ej=>?_) x.2.2 0 rfl]
   ·rfl
   ·rw[oM]
    have:=Tv (l:=x.2.2) (z:=(0:Int)) (g:=fun x=>x) (y:=y) (A:=kf false) (B:=next') hj m1
    rw[this]
    cases jn y 1 99<;>simp
  simp only[oM,inner]
  have ho:=fun A B=>Tv (l:=l) (z:=cY) (g:=fun x=>x.1) (y:=x.1) (A:=A) (B:=B) h hl
  simp only[ho]
  unfold o7
  cases jn x.1 1 99<;>simp
  cases jn x.2.1 1 99<;>simp
  cases (decide (i=0)||decide ((l[i - 1]?.getD cY).1<x.1))<;>simp
def C9 (l:List aH) (id:Int):Int:=(l.getD (aI l id).toNat aC).2.1
def awn (l:List aH) (id:Int):List Int:=(l.getD (aI l id).toNat aC).met
def pW (l:List aH) (a b:Int):Bool:=decide (aI l a≥0)&&mV (awn l a) b
def cT (l:List aH) (a b:Int):Bool:=aK l&&(decide (aI l a≥0)&&(decide (aI l b≥0)&&((aI l a != aI l b)&&((C9 l a != C9 l b)&& !pW l a b))))
theorem fG {l:List aH} {id:Int} (h:aI l id≥0):bC (aI l id) l.length=true∧(aI l id).toNat<l.length:=by
 obtain⟨k,hk,e,_⟩:=ck (p:=fun x:aH=>x.1==id) (l:=l) (by unfold aI at h;omega)
 have e:aI l id=(k:Int):=e
 rw[e]
 exact⟨aG hk,by simpa using hk⟩
theorem ajE {N:Nat} {l:List aH} {a b:Int} {kf:Bool→Option ab} (hl:l.length≤maxLen) (hm:∀ x∈l,x.met.length≤maxLen∧x.met.length<N) (hN:l.length<N):aiX N l a b kf=kf (pW l a b):=by
 unfold aiX pW
 rw[kQ hl hN]
 by_cases h:aI l a≥0
 ·obtain⟨h1,h2⟩:=fG h
  have hx:l.getD (aI l a).toNat aC∈l:=by rw[ax _ _ h2];exact List.getElem_mem h2
  obtain⟨m1,m2⟩:=hm _ hx
  rw[decide_eq_true h,cond_true,h1,cond_true,rO m1 m2]
  rfl
 ·rw[decide_eq_false h];rfl
theorem ar4 {N:Nat} {l:List aH} {a b:Int} {kf:Bool→Option ab} (hl:l.length≤maxLen) (hm:∀ x∈l,x.met.length≤maxLen∧x.met.length<N) (hN:l.length<N):I19 N l a b kf=kf (pW l a b):=by
 unfold I19 pW
 rw[lB hl hN]
 by_cases h:aI l a≥0
 ·obtain⟨h1,h2⟩:=fG h
  have hx:l.getD (aI l a).toNat aC∈l:=by rw[ax _ _ h2];exact List.getElem_mem h2
  obtain⟨m1,m2⟩:=hm _ hx
  rw[decide_eq_true h,cond_true,h1,cond_true,Ki m1 m2]
  rfl
 ·rw[decide_eq_false h];rfl
theorem WD {N:Nat} {l:List aH} {a b:Int} {kf:Bool→Option ab} (hl:l.length≤maxLen) (hm:∀ x∈l,x.met.length≤maxLen∧x.met.length<N) (hN:l.length<N):S9 N l a b kf=kf (cT l a b):=by
 unfold S9 cT
 rw[kQ hl hN,kQ hl hN,lO hl hm hN]
 cases aK l
 ·rfl
 by_cases ha:aI l a≥0
 rotate_left
 ·rw[decide_eq_false ha];rfl
 by_cases hb:aI l b≥0
 rotate_left
 ·rw[decide_eq_true ha,decide_eq_false hb];rfl
 rw[decide_eq_true ha,decide_eq_true hb,(fG ha).1,(fG hb).1,ajE hl hm hN]
 simp only[cond_true,Bool.true_and]
 cases aI l a != aI l b
 ·rfl
 unfold C9
 cases (l.getD (aI l a).toNat aC).2.1 != (l.getD (aI l b).toNat aC).2.1<;>rfl
theorem aem {N:Nat} {l:List aH} {a b:Int} {kf:Bool→Option ab} (hl:l.length≤maxLen) (hm:∀ x∈l,x.met.length≤maxLen∧x.met.length<N) (hN:l.length<N):I77 N l a b kf=kf (cT l a b):=by
 unfold I77 cT
 rw[lB hl hN,lB hl hN,mU hl hm hN]
 cases aK l
 ·rfl
 by_cases ha:aI l a≥0
 rotate_left
 ·rw[decide_eq_false ha];rfl
 by_cases hb:aI l b≥0
 rotate_left
 ·rw[decide_eq_true ha,decide_eq_false hb];rfl
 rw[decide_eq_true ha,decide_eq_true hb,(fG ha).1,(fG hb).1,ar4 hl hm hN]
 simp only[cond_true,Bool.true_and]
 cases aI l a != aI l b
 ·rfl
 unfold C9
 cases (l.getD (aI l a).toNat aC).2.1 != (l.getD (aI l b).toNat aC).2.1<;>rfl
def Gb (t:List aH) (j:bD) (id:Int):Bool:=decide (aI t id≥0)&&((C9 t id != j.2.1)&& !mV j.2.2 id)
def eP (t:List aH) (j:bD) (p:cS):Bool:=Gb t j p.1&&Gb t j p.2
theorem WE {N:Nat} {t:List aH} {j:bD} {p:cS} {kf:Bool→Option ab} (hl:t.length≤maxLen) (hN:t.length<N) (h1:j.2.2.length≤maxLen) (h2:j.2.2.length<N):ZH N t j p kf=kf (eP t j p):=by
 unfold ZH eP Gb
 rw[kQ hl hN,kQ hl hN]
 by_cases ha:aI t p.1≥0
 rotate_left
 ·rw[decide_eq_false ha];rfl
 by_cases hb:aI t p.2≥0
 rotate_left
 ·rw[decide_eq_true ha,decide_eq_false hb];simp
 rw[decide_eq_true ha,decide_eq_true hb,(fG ha).1,(fG hb).1,rO h1 h2]
 simp only[rO h1 h2,cond_true,Bool.true_and]
 unfold C9
 cases (t.getD (aI t p.1).toNat aC).2.1 != j.2.1
 ·rfl
 cases (t.getD (aI t p.2).toNat aC).2.1 != j.2.1
 ·simp
 cases mV j.2.2 p.1<;>simp
theorem aen {N:Nat} {t:List aH} {j:bD} {p:cS} {kf:Bool→Option ab} (hl:t.length≤maxLen) (hN:t.length<N) (h1:j.2.2.length≤maxLen) (h2:j.2.2.length<N) (h3:2<N):I83 N t j p kf=kf (eP t j p):=by
 have key:∀ (id:Int) (next:Option ab),(HN N t id (fun(lZ:Int)=>
     bif (decide (lZ<(0:Int))) then
      kf false
     else
      bif (bC lZ (List.length t)) then
       bif ((List.getD t (Int.toNat lZ) aC).2.1==j.2.1) then
        kf false
       else
        S82 N j.2.2 id (fun(tr:Bool)=>
         bif tr then
          kf false
         else
          next)
      else none))=bif Gb t j id then next else kf false:=fun id next=>by
  rw[lB hl hN]
  unfold Gb
  by_cases ha:aI t id≥0
  rotate_left
  ·rw[decide_eq_false ha,decide_eq_true (by omega)];rfl
  rw[decide_eq_true ha,decide_eq_false (by omega),(fG ha).1,Ki h1 h2]
  simp only[cond_true,cond_false,Bool.true_and]
  unfold C9
  cases hc:(t.getD (aI t id).toNat aC).2.1==j.2.1
  ·simp only[bne,hc,Bool.not_false,Bool.true_and,cond_false]
   cases mV j.2.2 id<;>rfl
  ·simp only[bne,hc,Bool.not_true,Bool.false_and,cond_false,cond_true]
 unfold I83
 rw[aec (by rw[aN];simp) (by simpa using h3)]
 simp only[lX,key]
 unfold eP
 cases Gb t j p.1
 ·rfl
 ·simp
  cases Gb t j p.2<;>rfl
end Go.Pv.R
namespace Go.Pv.R
set_option linter.unusedVariables false
set_option linter.unusedSimpArgs false
theorem ajF {N:Nat} {l:List aH} {kf:Int→Option ab} (hl:l.length≤maxLen) (hm:∀ x∈l,x.met.length≤maxLen∧x.met.length<N) (hN:l.length<N):ai1 N l kf=kf (bif aK l then foldI (fun _ (x:aH) s=>IntKind.wrap .i64 (s+x.2.2.1)) l 0 0 else 0):=by
 unfold ai1
 rw[aad hl hN]
 simp only[lO hl hm hN]
 cases aK l with
 |false=>cases l<;>rfl
 |true=>
  simp only[cond_true]
  rw[Bl (fun _ (x:aH) s=>IntKind.wrap .i64 (s+x.2.2.1)) (fun i x s next h e=>rfl)]
theorem ajG {N:Nat} {l:List aH} {kf:Int→Option ab} (hl:l.length≤maxLen) (hm:∀ x∈l,x.met.length≤maxLen∧x.met.length<N) (hN:l.length<N):aiD N l kf=kf (bif aK l then foldI (fun _ (x:aH) s=>IntKind.wrap .i64 (s+x.2.2.1)) l 0 0 else 0):=by
 unfold aiD
 rw[mU hl hm hN]
 cases aK l with
 |false=>rfl
 |true=>
  simp only[cond_true,Bool.not_true,cond_false]
  rw[ZV hl hN,Bl (fun _ (x:aH) s=>IntKind.wrap .i64 (s+x.2.2.1)) (fun i x s next h e=>rfl)]
def nK (l:List aH):Int:=bif aK l then foldI (fun _ (x:aH) s=>IntKind.wrap .i64 (s+x.2.2.1)) l 0 0 else 0
abbrev eN:=QB
def cC (b:eN):Bool:=jn b.1 1 99&&(jn b.2.1 0 100&&(jn b.2.2 0 100&&(b.2.1 != b.2.2)))
theorem Kk {N:Nat} {b:eN} {kf:Bool→Option ab}:ON N b kf=kf (cC b):=by
 unfold ON cC
 simp only[mT]
 cases jn b.1 1 99<;>simp
 cases jn b.2.1 0 100<;>simp
 cases jn b.2.2 0 100<;>simp
theorem Kl {N:Nat} {b:eN} {kf:Bool→Option ab}:Ov N b kf=kf (cC b):=by
 unfold Ov cC
 simp only[oM]
 cases jn b.1 1 99<;>simp
 cases jn b.2.1 0 100<;>simp
 cases jn b.2.2 0 100<;>simp
def dI (r:List cS):List Int:=r.flatMap fun p=>[p.1,p.2]
def er (l:List aH):List Int:=l.map fun x=>x.1
def gv (l:List aH) (r:List cS):Bool:=r.all (fun p=>cT l p.1 p.2)&&l.all (fun x=>decide ((dI r).count x.1=1))
theorem aat (r:List cS):(dI r).length=2*r.length:=by
 induction r with
 |nil=>rfl
 |cons p r ih=>simp only[dI,List.flatMap_cons,List.length_append,List.length_cons,List.length_nil] at*;omega
theorem jZ {l:List aH} {a b:Int} (h:cT l a b=true):aK l=true∧a∈er l∧b∈er l∧a≠b:=by
 unfold cT at h
 simp only[Bool.and_eq_true,decide_eq_true_eq] at h
 obtain⟨h0,ha,hb,pj,_⟩:=h
 have mem:∀ id:Int,aI l id≥0→id∈er l:=fun id YZ=>by
  obtain⟨k,hk,_,h1,_⟩:=ck (p:=fun x:aH=>x.1==id) (l:=l) (by unfold aI at YZ;omega)
  exact List.mem_map.2 ⟨l[k],List.getElem_mem hk,by simpa using h1⟩
 refine⟨h0,mem a ha,mem b hb,fun e=>?_⟩
 subst e
 simp at pj
theorem l8 {l:List aH} (h:aK l=true):(er l).Nodup:=by
 unfold aK at h
 simp only[Bool.and_eq_true] at h
 have hm:=rM h.2.1
 have key:∀ (n:Nat) (r:List aH),l.drop n=r→(r.map fun x:aH=>x.1).Nodup:=by
  intro n r
  induction r generalizing n with
  |nil=>intro _;exact List.nodup_nil
  |cons x r ih=>
   intro hd
   have cZ:n<l.length:=by have:=congrArg List.length hd;simp at this;omega
   rw[List.drop_eq_getElem_cons cZ] at hd
   injection hd with h1 h2
   rw[List.map_cons,List.nodup_cons]
   refine⟨fun hx=>?_,ih (n+1) h2⟩
   obtain⟨y,hy,e⟩:=List.mem_map.1 hx
   rw[←h2] at hy
   obtain⟨j,hj,rfl⟩:=List.mem_iff_getElem.1 hy
   rw[List.getElem_drop] at e
   have hj':n+1+j<l.length:=by simp at hj;omega
   have:=hm n (n+1+j) hj' (by omega)
   rw[ax _ _ cZ,h1] at this
   omega
 exact key 0 l rfl
theorem ar5 {N:Nat} {l:List aH} {r:List cS} {kf:Bool→Option ab} (hl:l.length≤maxLen) (hm:∀ x∈l,x.met.length≤maxLen∧x.met.length<N) (hN:l.length<N) (hr:r.length≤1048576) (hrN:2*r.length<N):I17 N l r kf=kf (gv l r):=by
 have hML:=aN
 unfold I17
 rw[aea (by omega) (by omega)]
 have key:∀ (q:List cS) (i:Nat) (s:List Int) (dw:List Int→Option ab),r.drop i=q→s.length=2*i→c6 (fun(i:Nat) (x:cg) (iz:List Int) (next:List Int→Option ab)=>
    I77 N l x.1 x.2 (fun(lZ:Bool)=>
     bif (!lZ) then
      kf false
     else
      bif (decide ((List.length iz+List.length [x.1,x.2])*1≤4398046511104)) then
       next (iz++[x.1,x.2])
      else none)) dw q i s=bif q.all (fun p=>cT l p.1 p.2) then dw (s++dI q) else kf false:=by
  intro q
  induction q with
  |nil=>intro i s dw _ _;simp[c6,dI]
  |cons p q ih=>
   intro i s dw hd hs
   have cZ:i<r.length:=by have:=congrArg List.length hd;simp at this;omega
   rw[List.drop_eq_getElem_cons cZ] at hd
   injection hd with h1 h2
   simp only[c6]
   rw[aem hl hm hN]
   cases hmm:cT l p.1 p.2 with
   |false=>simp[hmm]
   |true=>
    have jV:decide ((List.length s+List.length [p.1,p.2])*1≤4398046511104)=true:=decide_eq_true (by simp;omega)
    simp only[Bool.not_true,cond_false]
    rw[jV,cond_true,ih (i+1) _ dw h2 (by simp;omega)]
    simp[hmm,dI]
 refine Eq.trans (key r 0 [] _ rfl (by simp)) ?_
 unfold gv
 cases gQ:r.all (fun p=>cT l p.1 p.2) with
 |false=>rfl
 |true=>
  have hlen:(dI r).length≤maxLen∧(dI r).length<N:=by rw[aat];omega
  rw[cond_true,List.nil_append,ZU hl hN,iq (l:=l) (p:=fun _ x=>decide ((dI r).count x.1=1)) (kf:=kf false) (fun i x next h e=>?_) l 0 rfl,yB (p:=fun x:aH=>decide ((dI r).count x.1=1))]
  ·simp only[Bool.true_and]
   cases l.all fun x=>decide ((dI r).count x.1=1)<;>rfl
  ·rw[Tu hlen.1 hlen.2,BC hlen.1]
   by_cases h1:(dI r).count x.1=1
   ·simp[h1]
   ·have:(((dI r).count x.1:Int) != 1)=true:=by rw[bne_iff_ne];omega
    rw[this,decide_eq_false h1]
    rfl
theorem Km {l:List aH} {r:List cS}:(r.all (fun p=>cT l p.1 p.2)&&(decide (dI r).Nodup&&(aK l&&decide ((dI r).length=l.length))))=gv l r:=by
 unfold gv
 cases gQ:r.all (fun p=>cT l p.1 p.2) with
 |false=>rfl
 |true=>
  rw[Bool.true_and,Bool.true_and]
  rw[List.all_eq_true] at gQ
  have Hz:∀ x∈dI r,x∈er l:=fun x hx=>by
   obtain⟨p,hp,hx⟩:=List.mem_flatMap.1 hx
   obtain⟨_,h1,h2,_⟩:=jZ (gQ p hp)
   simp at hx
   rcases hx with rfl |rfl
   ·exact h1
   ·exact h2
  cases ht:aK l with
  |true=>
   have:=OV (l8 ht) Hz
   apply Bool.eq_iff_iff.2
   rw[List.all_eq_true,Bool.true_and,Bool.and_eq_true,decide_eq_true_eq,decide_eq_true_eq]
   rw[show(er l).length=l.length by simp[er]] at this
   rw[←this]
   constructor
   ·intro h x hx;exact decide_eq_true (h x.1 (List.mem_map.2 ⟨x,hx,rfl⟩))
   ·intro h x hx
    obtain⟨y,hy,rfl⟩:=List.mem_map.1 hx
    simpa using h y hy
  |false=>
   -- then there are no pairs,and there are teams
   cases r with
   |cons p r=>have:=(jZ (gQ p (by simp))).1;rw[ht] at this;cases this
   |nil=>
    cases l with
    |nil=>simp[aK,allI] at ht
    |cons x l=>simp[dI]
theorem ajH {N:Nat} {l:List aH} {r:List cS} {kf:Bool→Option ab} (hl:l.length≤maxLen) (hm:∀ x∈l,x.met.length≤maxLen∧x.met.length<N) (hN:l.length<N) (hr:r.length≤1048576) (hrN:2*r.length<N):ai2 N l r kf=kf (gv l r):=by
 have hML:=aN
 unfold ai2
 rw[aae (by omega) (by omega)]
 have key:∀ (q:List cS) (i:Nat) (s:List Int) (dw:List Int→Option ab),r.drop i=q→s.length=2*i→s.Nodup→c6 (fun(i:Nat) (x:cg) (bH:List Int) (next:List Int→Option ab)=>
    S9 N l x.1 x.2 (fun(OK:Bool)=>
     bif (!OK) then
      kf false
     else
      wD N bH x.1 (fun(OL:Bool)=>
       bif OL then
        kf false
       else
        wD N bH x.2 (fun(OM:Bool)=>
         bif OM then
          kf false
         else
          bif (decide ((List.length bH+List.length [x.1,x.2])*1≤4398046511104)) then
           next (bH++[x.1,x.2])
          else none)))) dw q i s=bif q.all (fun p=>cT l p.1 p.2)&&decide (s++dI q).Nodup then dw (s++dI q) else kf false:=by
  intro q
  induction q with
  |nil=>intro i s dw _ _ Nu;simp[c6,dI,Nu]
  |cons p q ih=>
   intro i s dw hd hs Nu
   have cZ:i<r.length:=by have:=congrArg List.length hd;simp at this;omega
   rw[List.drop_eq_getElem_cons cZ] at hd
   injection hd with h1 h2
   simp only[c6]
   rw[WD hl hm hN]
   cases hmm:cT l p.1 p.2 with
   |false=>simp[hmm]
   |true=>
    have pj:=(jZ hmm).2.2.2
    have Hv:s.length≤maxLen∧s.length<N:=by omega
    have axp:s++dI (p::q)=(s++[p.1,p.2])++dI q:=by simp[dI]
    simp only[Bool.not_true,cond_false]
    rw[rO Hv.1 Hv.2]
    cases h1':mV s p.1 with
    |true=>
     have mu:=l7.1 h1'
     have: ¬(s++dI (p::q)).Nodup:=fun h=>by
      rw[List.nodup_append] at h
      exact h.2.2 p.1 mu p.1 (by simp[dI]) rfl
     rw[decide_eq_false this]
     simp
    |false=>
     rw[cond_false,rO Hv.1 Hv.2]
     cases h2':mV s p.2 with
     |true=>
      have mu:=l7.1 h2'
      have: ¬(s++dI (p::q)).Nodup:=fun h=>by
       rw[List.nodup_append] at h
       exact h.2.2 p.2 mu p.2 (by simp[dI]) rfl
      rw[decide_eq_false this]
      simp
     |false=>
      have jV:decide ((List.length s+List.length [p.1,p.2])*1≤4398046511104)=true:=decide_eq_true (by simp;omega)
      have n1:p.1∉s:=fun h=>by rw[l7.2 h] at h1';cases h1'
      have n2:p.2∉s:=fun h=>by rw[l7.2 h] at h2';cases h2'
      have ab9:(s++[p.1,p.2]).Nodup:=by
       rw[List.nodup_append]
       refine⟨Nu,?_,?_⟩
       ·rw[List.nodup_cons]
        exact⟨by simpa using pj,by simp⟩
       ·intro a ha b hb e
        subst e
        simp at hb
        rcases hb with rfl |rfl
        ·exact n1 ha
        ·exact n2 ha
      rw[cond_false,jV,cond_true,ih (i+1) _ dw h2 (by simp;omega) ab9,axp]
      simp[hmm]
 refine Eq.trans (key r 0 [] _ rfl (by simp) List.nodup_nil) ?_
 rw[←Km]
 rw[List.nil_append]
 cases r.all (fun p=>cT l p.1 p.2)
 ·rfl
 cases decide (dI r).Nodup
 ·rfl
 simp only[Bool.true_and,cond_true]
 rw[lO hl hm hN]
 cases aK l
 ·rfl
 simp only[cond_true,Bool.true_and]
 congr 1
 apply Bool.eq_iff_iff.2
 rw[beq_iff_eq,decide_eq_true_eq]
 omega
theorem tK {l:List bD} {id:Int} (h:dd l id≥0):bC (dd l id) l.length=true∧(dd l id).toNat<l.length:=by
 obtain⟨k,hk,e,_⟩:=ck (p:=fun x:bD=>x.1==id) (l:=l) (by unfold dd at h;omega)
 have e:dd l id=(k:Int):=e
 rw[e]
 exact⟨aG hk,by simpa using hk⟩
def tL (t:List aH) (l:List bD) (r:List cS) (ids:List Int) (i:Nat):Bool:=decide (dd l (ids.getD i 0)≥0)&&(!mV (ids.take i) (ids.getD i 0)&&eP t (l.getD (dd l (ids.getD i 0)).toNat cY) (r.getD i dz))
def eD (t:List aH) (l:List bD) (r:List cS) (ids:List Int):Bool:=decide (ids.length=r.length)&&(cz l&&allI (fun i _=>tL t l r ids i) r 0)
theorem ajI {N:Nat} {t:List aH} {l:List bD} {r:List cS} {ids:List Int} {kf:Bool→Option ab} (ht:t.length≤maxLen) (htN:t.length<N) (hl:l.length≤maxLen) (hm:∀ x∈l,x.2.2.length≤maxLen∧x.2.2.length<N) (hN:l.length<N)
  (hr:r.length≤maxLen) (hrN:r.length<N):ai3 N t l r ids kf=kf (eD t l r ids):=by
 unfold ai3 eD
 by_cases hlen:ids.length=r.length
 rotate_left
 ·have:((ids.length:Int) != (r.length:Int))=true:=by rw[bne_iff_ne];omega
  rw[this,decide_eq_false hlen];rfl
 have:((ids.length:Int) != (r.length:Int))=false:=by rw[hlen];exact bne_self_eq_false _
 rw[this,decide_eq_true hlen,cond_false,Kj hl hm hN]
 cases cz l
 ·rfl
 simp only[Bool.not_true,cond_false,Bool.true_and]
 rw[aag hr hrN,iq (l:=r) (p:=fun i _=>tL t l r ids i) (kf:=kf false) (fun i x next h e=>?_) r 0 rfl]
 ·cases allI (fun i _=>tL t l r ids i) r 0<;>rfl
 ·have hi:i<ids.length:=by omega
  have ar6:(decide ((0:Int)≤(0:Int))&&decide ((0:Int)≤(i:Int))&&decide ((i:Int)≤(List.length ids:Int)))=true:=by simp;omega
  rw[aG hi,cond_true,ar6]
  simp only[Int.toNat_natCast,cond_true]
  rw[WA hl hN]
  unfold tL
  by_cases hf:dd l (ids.getD i 0)≥0
  rotate_left
  ·rw[decide_eq_false hf,decide_eq_true (by omega)];rfl
  obtain⟨f1,f2⟩:=tK hf
  have hx:l.getD (dd l (ids.getD i 0)).toNat cY∈l:=by rw[ax _ _ f2];exact List.getElem_mem f2
  obtain⟨m1,m2⟩:=hm _ hx
  rw[decide_eq_true hf,decide_eq_false (by omega),cond_false]
  have htk:(List.drop (Int.toNat 0) (List.take i ids))=ids.take i:=rfl
  rw[htk,rO (by simp;omega) (by simp;omega),f1]
  cases mV (ids.take i) (ids.getD i 0)
  ·rw[cond_false,cond_true,WE ht htN m1 m2]
   have hrx:r.getD i dz=x:=by rw[ax _ _ h,e]
   rw[hrx]
   cases eP t (l.getD (dd l (ids.getD i 0)).toNat cY) x<;>rfl
  ·rfl
theorem ar7 {N:Nat} {t:List aH} {l:List bD} {r:List cS} {ids:List Int} {kf:Bool→Option ab} (ht:t.length≤maxLen) (htN:t.length<N) (hl:l.length≤maxLen) (hm:∀ x∈l,x.2.2.length≤maxLen∧x.2.2.length<N) (hN:l.length<N)
  (hr:r.length≤maxLen) (hrN:r.length<N) (h2N:2<N):I18 N t l r ids kf=kf (eD t l r ids):=by
 unfold I18 eD
 rw[Tw hl hm hN]
 cases cz l
 ·simp
 simp only[Bool.not_true,cond_false,Bool.true_and]
 by_cases hlen:ids.length=r.length
 rotate_left
 ·have:((ids.length:Int) != (r.length:Int))=true:=by rw[bne_iff_ne];omega
  rw[this,decide_eq_false hlen];rfl
 have:((ids.length:Int) != (r.length:Int))=false:=by rw[hlen];exact bne_self_eq_false _
 rw[this,decide_eq_true hlen,cond_false,Bool.true_and]
 have gQ:allI (fun i _=>tL t l r ids i) r 0=allI (fun i _=>tL t l r ids i) ids 0:=by
  apply Bool.eq_iff_iff.2
  rw[gg,gg]
  exact⟨fun h j hj=>h j (by omega),fun h j hj=>h j (by omega)⟩
 rw[gQ,aed (by omega) (by omega),iq (l:=ids) (p:=fun i _=>tL t l r ids i) (kf:=kf false) (fun i x next h e=>?_) ids 0 rfl]
 ·cases allI (fun i _=>tL t l r ids i) ids 0<;>rfl
 ·have hi:i<r.length:=by omega
  have ar6:(decide ((0:Int)≤(0:Int))&&decide ((0:Int)≤(i:Int))&&decide ((i:Int)≤(List.length ids:Int)))=true:=by simp;omega
  have YZ:ids.getD i 0=x:=by rw[ax _ _ h,e]
  rw[ar6]
  simp only[Int.toNat_natCast,cond_true]
  rw[ar3 hl hN]
  unfold tL
  rw[YZ]
  by_cases hf:dd l x≥0
  rotate_left
  ·rw[decide_eq_false hf,decide_eq_true (by omega)];rfl
  obtain⟨f1,f2⟩:=tK hf
  have hx:l.getD (dd l x).toNat cY∈l:=by rw[ax _ _ f2];exact List.getElem_mem f2
  obtain⟨m1,m2⟩:=hm _ hx
  rw[decide_eq_true hf,decide_eq_false (by omega),cond_false]
  have htk:(List.drop (Int.toNat 0) (List.take i ids))=ids.take i:=rfl
  rw[htk,Ki (by simp;omega) (by simp;omega),f1,aG hi]
  cases mV (ids.take i) x
  ·rw[cond_false,cond_true,cond_true,aen ht htN m1 m2 h2N]
   cases eP t (l.getD (dd l x).toNat cY) (r.getD i dz)<;>rfl
  ·rfl
end Go.Pv.R
namespace Go.Pv.R
set_option linter.unusedVariables false
set_option linter.unusedSimpArgs false
abbrev aP:=QC
structure bV (c:aP) (N:Nat):Prop where
 tl:c.1.length≤maxLen
 tm:∀ x:aH,x∈c.1→x.met.length≤maxLen∧x.met.length<N
 tN:c.1.length<N
 jl:c.2.1.length≤maxLen
 jm:∀ x∈c.2.1,x.2.2.length≤maxLen∧x.2.2.length<N
 jN:c.2.1.length<N
 rl:c.2.2.1.length≤1048576
 rN:2*c.2.2.1.length<N
 sl:c.2.2.2.1.length≤1048576
 sN:c.2.2.2.1.length<N
 bl:c.2.2.2.2.1.length≤1048576
 bN:c.2.2.2.2.1.length<N
 ml:c.2.2.2.2.2.1.length≤1048576
 mN:c.2.2.2.2.2.1.length<N
 n8:8<N
 tb:c.1.length≤1048700
 tmb:∀ x:aH,x∈c.1→x.met.length≤1048700
 jb:c.2.1.length≤1048700
 jmb:∀ x:bD,x∈c.2.1→x.2.2.length≤1048700
def gP (b:eN):Bool:=(decide ((b.1:Int)=0))&&((decide ((b.2.1:Int)=0))&&(decide ((b.2.2:Int)=0)))
def kR (c:aP) (i:Nat) (b:eN):Bool:=gP b||(cC b&&(b.1==c.2.2.2.1.getD i 0))
def cw (c:aP):Bool:=aK c.1&&(cz c.2.1&&(fF c.2.2.2.2.2.1&&(decide (c.2.2.2.1.length=c.2.2.1.length)&&(decide (c.2.2.2.2.1.length=c.2.2.1.length)&&
 ((decide (c.2.2.1.length=0)||(gv c.1 c.2.2.1&&eD c.1 c.2.1 c.2.2.1 c.2.2.2.1))&&(allI (kR c) c.2.2.2.2.1 0&&(jn c.2.2.2.2.2.2 0 1000&&(nK c.1==c.2.2.2.2.2.2))))))))
theorem aeo {a b:Nat}:((a:Int) != (b:Int))=!decide (a=b):=by
 apply Bool.eq_iff_iff.2
 simp
 omega
theorem II {N:Nat} {c:aP} {kf:Bool→Option ab} (h:bV c N) (hs:c.2.2.2.1.length=c.2.2.1.length) (hb:c.2.2.2.2.1.length=c.2.2.1.length):JN N c kf=kf (allI (kR c) c.2.2.2.2.1 0&&(jn c.2.2.2.2.2.2 0 1000&&(nK c.1==c.2.2.2.2.2.2))):=by
 have hm:=aN
 have:=h.bl
 unfold JN
 rw[aee (by omega) h.bN,iq (l:=c.2.2.2.2.1) (p:=kR c) (kf:=kf false) (fun i b next hi e=>?_) c.2.2.2.2.1 0 rfl]
 ·cases allI (kR c) c.2.2.2.2.1 0
  ·rfl
  rw[cond_true,oM]
  cases jn c.2.2.2.2.2.2 0 1000
  ·rfl
  simp only[cond_true,Bool.true_and]
  rw[ajG h.tl h.tm h.tN]
  rfl
 ·rw[Kl,aG (by omega),cond_true,Int.toNat_natCast]
  unfold kR gP
  cases (decide ((b.1:Int)=0))&&((decide ((b.2.1:Int)=0))&&(decide ((b.2.2:Int)=0)))
  ·simp only[Bool.not_false,cond_true,Bool.false_or]
   cases cC b
   ·rfl
   ·cases hc:b.1==c.2.2.2.1.getD i 0<;>simp only[bne,hc,Bool.not_true,Bool.not_false,cond_true,cond_false,Bool.and_true,Bool.and_false]
  ·rfl
theorem Gc {N:Nat} {c:aP} {kf:Bool→Option ab} (h:bV c N) (hs:c.2.2.2.1.length=c.2.2.1.length) (hb:c.2.2.2.2.1.length=c.2.2.1.length):DT N c kf=kf (allI (kR c) c.2.2.2.2.1 0):=by
 have hm:=aN
 have:=h.bl
 unfold DT
 rw[aah (by omega) h.bN,iq (l:=c.2.2.2.2.1) (p:=kR c) (kf:=kf false) (fun i b next hi e=>?_) c.2.2.2.2.1 0 rfl]
 ·cases allI (kR c) c.2.2.2.2.1 0<;>rfl
 ·rw[Kk,aG (by omega),cond_true,Int.toNat_natCast]
  unfold kR gP
  cases (decide ((b.1:Int)=0))&&((decide ((b.2.1:Int)=0))&&(decide ((b.2.2:Int)=0)))
  ·simp only[Bool.not_false,cond_true,Bool.false_or]
   cases cC b
   ·rfl
   ·cases hc:b.1==c.2.2.2.1.getD i 0<;>simp only[bne,hc,Bool.not_true,Bool.not_false,cond_true,cond_false,Bool.and_true,Bool.and_false]
  ·rfl
theorem nL {N:Nat} {c:aP} {kf:Bool→Option ab} (h:bV c N):RM N c kf=kf (cw c):=by
 have hm:=aN
 have Np:=h.ml
 have h8:=h.n8
 have hr:=h.rl
 have hrN:=h.rN
 unfold RM cw
 rw[mU h.tl h.tm h.tN]
 cases aK c.1
 ·rfl
 simp only[Bool.not_true,cond_false,Bool.true_and]
 rw[Tw h.jl h.jm h.jN]
 cases cz c.2.1
 ·rfl
 simp only[Bool.not_true,cond_false,Bool.true_and]
 rw[Kg (by omega) h.mN (by omega)]
 cases fF c.2.2.2.2.2.1
 ·rfl
 simp only[Bool.not_true,cond_false,Bool.true_and,aeo]
 by_cases hs:c.2.2.2.1.length=c.2.2.1.length
 rotate_left
 ·rw[decide_eq_false hs];rfl
 by_cases hb:c.2.2.2.2.1.length=c.2.2.1.length
 rotate_left
 ·rw[decide_eq_false hb,decide_eq_true hs];rfl
 rw[decide_eq_true hs,decide_eq_true hb]
 simp only[Bool.not_true,cond_false,Bool.true_and]
 unfold Om
 by_cases h0:c.2.2.1.length=0
 ·rw[decide_eq_false (by omega)]
  simp only[cond_false]
  rw[II h hs hb,decide_eq_true h0]
  rfl
 ·rw[decide_eq_true (by omega)]
  simp only[cond_true]
  rw[ar5 h.tl h.tm h.tN h.rl h.rN,decide_eq_false h0]
  cases gv c.1 c.2.2.1
  ·rfl
  simp only[Bool.not_true,cond_false,Bool.true_and,Bool.false_or]
  rw[ar7 h.tl h.tN h.jl h.jm h.jN (by omega) (by omega) (by omega)]
  cases eD c.1 c.2.1 c.2.2.1 c.2.2.2.1
  ·rfl
  simp only[Bool.not_true,cond_false,Bool.true_and]
  exact II h hs hb
theorem D3 {N:Nat} {c:aP} {kf:Bool→Option ab} (h:bV c N):Tj N c kf=kf (cw c):=by
 have hm:=aN
 have Np:=h.ml
 have h8:=h.n8
 have hr:=h.rl
 have hrN:=h.rN
 unfold Tj cw
 rw[lO h.tl h.tm h.tN]
 cases aK c.1
 ·rfl
 simp only[Bool.not_true,cond_false,Bool.true_and]
 rw[Kj h.jl h.jm h.jN]
 cases cz c.2.1
 ·rfl
 simp only[Bool.not_true,cond_false,Bool.true_and]
 rw[Wy (by omega) h.mN (by omega)]
 cases fF c.2.2.2.2.2.1
 ·rfl
 simp only[Bool.not_true,cond_false,Bool.true_and,aeo]
 by_cases hs:c.2.2.2.1.length=c.2.2.1.length
 rotate_left
 ·rw[decide_eq_false hs];rfl
 by_cases hb:c.2.2.2.2.1.length=c.2.2.1.length
 rotate_left
 ·rw[decide_eq_false hb,decide_eq_true hs];rfl
 rw[decide_eq_true hs,decide_eq_true hb]
 simp only[Bool.not_true,cond_false,Bool.true_and,mT]
 cases jn c.2.2.2.2.2.2 0 1000
 ·simp
 simp only[Bool.not_true,cond_false,Bool.true_and]
 rw[ajF h.tl h.tm h.tN]
 show(bif nK c.1 != c.2.2.2.2.2.2 then kf false else _)=_
 cases ht:nK c.1==c.2.2.2.2.2.2
 ·simp only[bne,ht,Bool.not_false,cond_true,Bool.and_false]
 simp only[bne,ht,Bool.not_true,cond_false,Bool.and_true]
 by_cases h0:c.2.2.1.length=0
 ·rw[decide_eq_false (by omega),cond_false,Gc h hs hb,decide_eq_true h0]
  rfl
 ·rw[decide_eq_true (by omega),cond_true,ajH h.tl h.tm h.tN h.rl h.rN,decide_eq_false h0]
  cases gv c.1 c.2.2.1
  ·rfl
  simp only[Bool.not_true,cond_false,Bool.true_and,Bool.false_or]
  rw[ajI h.tl h.tN h.jl h.jm h.jN (by omega) (by omega)]
  cases eD c.1 c.2.1 c.2.2.1 c.2.2.2.1
  ·rfl
  simp only[Bool.not_true,cond_false,Bool.true_and]
  exact Gc h hs hb
def bz (c:aP):List Int:=ir (fun _ b=>gP b) (fun i _=>(i:Int)) c.2.2.2.2.1 0
theorem yC {N:Nat} {c:aP} {kf:List Int→Option ab} (h:bV c N):ZJ N c kf=kf (bz c):=by
 have hm:=aN
 have:=h.bl
 unfold ZJ
 rw[aai (by omega) h.bN,l6 (l:=c.2.2.2.2.1) (c:=fun _ b=>gP b) (f:=fun i _=>(i:Int)) (fun i b s next hi e hs=>?_) c.2.2.2.2.1 0 [] rfl (by simp),List.nil_append]
 ·rfl
 ·have jV:decide ((List.length s+List.length [(i:Int)])*1≤4398046511104)=true:=decide_eq_true (by simp;omega)
  rw[jV,cond_true]
  rfl
theorem Kn {N:Nat} {c:aP} {kf:List Int→Option ab} (h:bV c N):I41 N c kf=kf (bz c):=by
 have hm:=aN
 have:=h.bl
 unfold I41
 rw[aeh (by omega) h.bN,l6 (l:=c.2.2.2.2.1) (c:=fun _ b=>gP b) (f:=fun i _=>(i:Int)) (fun i b s next hi e hs=>?_) c.2.2.2.2.1 0 [] rfl (by simp),List.nil_append]
 ·rfl
 ·have jV:decide ((List.length s+List.length [(i:Int)])*1≤4398046511104)=true:=decide_eq_true (by simp;omega)
  rw[jV,cond_true]
  rfl
def OX (l:List QL):Nat:=(l.filter fun x=>x.2.1==4).length
theorem uH {a b c:Int}:jn a b c=true↔b≤a∧a≤c:=by unfold jn;simp
end Go.Pv.R
namespace Go.Pv
set_option linter.unusedVariables false
set_option linter.unusedSimpArgs false
theorem pX {α:Type} [DecidableEq α] {xs ys:List α} {body:Nat→α→Option ab→Option ab} {kt kf:Option ab} (hlen:xs.length=ys.length)
  (hb:∀ (i:Nat) (x:α) (next:Option ab) (h:i<xs.length) (h':i<ys.length),xs[i]=x→body i x next=bif decide (x=ys[i]) then next else kf):lX body kt xs 0=bif decide (xs=ys) then kt else kf:=by
 have key:∀ (r:List α) (i:Nat),xs.drop i=r→xs.take i=ys.take i→lX body kt r i=bif decide (xs=ys) then kt else kf:=by
  intro r
  induction r with
  |nil=>
   intro i hd he
   have:xs.length≤i:=by have:=congrArg List.length hd;simp at this;omega
   rw[List.take_of_length_le this,List.take_of_length_le (by omega)] at he
   rw[decide_eq_true he];rfl
  |cons x r ih=>
   intro i hd he
   have cZ:i<xs.length:=by have:=congrArg List.length hd;simp at this;omega
   rw[List.drop_eq_getElem_cons cZ] at hd
   injection hd with h1 h2
   simp only[lX]
   rw[hb i x _ cZ (by omega) h1]
   by_cases hx:x=ys[i]
   ·rw[decide_eq_true hx,cond_true,ih (i+1) h2 (by rw[List.take_succ_eq_append_getElem cZ,List.take_succ_eq_append_getElem (by omega),he,h1,hx])]
   ·rw[decide_eq_false hx,cond_false]
    have: ¬xs=ys:=fun e=>hx (by rw[←h1];simp only[e])
    rw[decide_eq_false this];rfl
 exact key xs 0 rfl rfl
theorem lens {α β:Type} {xs:List α} {ys:List β} {A B:Option ab} {p:Bool} {kf:Bool→Option ab} (h:xs.length=ys.length→B=kf p) (h':xs.length≠ys.length→p=false):(bif ((List.length xs:Int) != (List.length ys:Int)) then kf false else B)=kf p:=by
 by_cases hl:xs.length=ys.length
 ·have:((xs.length:Int) != (ys.length:Int))=false:=by rw[hl];exact bne_self_eq_false _
  rw[this,cond_false,h hl]
 ·have:((xs.length:Int) != (ys.length:Int))=true:=by rw[bne_iff_ne];omega
  rw[this,cond_true,h' hl]
end Go.Pv
namespace Go.Pv.R
set_option linter.unusedVariables false
set_option linter.unusedSimpArgs false
theorem Ko {N:Nat} {a b:List Int} {kf:Bool→Option ab} (hl:a.length≤maxLen) (hN:a.length<N):ZO N a b kf=kf (decide (a=b)):=by
 unfold ZO
 refine lens (A:=kf true) (fun h=>?_) (fun h=>decide_eq_false fun e=>h (by rw[e]))
 rw[aao hl hN,pX h (kf:=kf false) (fun i x next hi sO e=>?_)]
 ·cases decide (a=b)<;>rfl
 ·rw[aG sO,cond_true,Int.toNat_natCast,ax _ _ sO]
  by_cases hx:x=b[i]
  ·simp[hx]
  ·have:(x != b[i])=true:=by simpa using hx
   rw[this,decide_eq_false hx];rfl
theorem ajJ {N:Nat} {a b:List cg} {kf:Bool→Option ab} (hl:a.length≤maxLen) (hN:a.length<N):ajc N a b kf=kf (decide (a=b)):=by
 unfold ajc
 refine lens (A:=kf true) (fun h=>?_) (fun h=>decide_eq_false fun e=>h (by rw[e]))
 rw[aar hl hN,pX h (kf:=kf false) (fun i x next hi sO e=>?_)]
 ·cases decide (a=b)<;>rfl
 ·rw[aG sO,cond_true,Int.toNat_natCast,ax _ _ sO]
  have:(decide ((x.1:Int)=b[i].1)&&decide ((x.2:Int)=b[i].2))=decide (x=b[i]):=by
   apply Bool.eq_iff_iff.2
   simp[Prod.ext_iff]
  rw[this]
  cases decide (x=b[i])<;>rfl
theorem ajK {N:Nat} {a b:List QB} {kf:Bool→Option ab} (hl:a.length≤maxLen) (hN:a.length<N):ajd N a b kf=kf (decide (a=b)):=by
 unfold ajd
 refine lens (A:=kf true) (fun h=>?_) (fun h=>decide_eq_false fun e=>h (by rw[e]))
 rw[aas hl hN,pX h (kf:=kf false) (fun i x next hi sO e=>?_)]
 ·cases decide (a=b)<;>rfl
 ·rw[aG sO,cond_true,Int.toNat_natCast,ax _ _ sO]
  have:(decide ((x.1:Int)=b[i].1)&&(decide ((x.2.1:Int)=b[i].2.1)&&decide ((x.2.2:Int)=b[i].2.2)))=decide (x=b[i]):=by
   apply Bool.eq_iff_iff.2
   simp[Prod.ext_iff]
  rw[this]
  cases decide (x=b[i])<;>rfl
theorem aep {N:Nat} {a b:List QL} {kf:Bool→Option ab} (hl:a.length≤maxLen) (hN:a.length<N):S76 N a b kf=kf (decide (a=b)):=by
 unfold S76
 refine lens (A:=kf true) (fun h=>?_) (fun h=>decide_eq_false fun e=>h (by rw[e]))
 rw[aej hl hN,pX h (kf:=kf false) (fun i x next hi sO e=>?_)]
 ·cases decide (a=b)<;>rfl
 ·rw[aG sO,cond_true,Int.toNat_natCast,ax _ _ sO]
  have:(decide ((x.1:Int)=b[i].1)&&(decide ((x.2.1:Int)=b[i].2.1)&&(decide ((x.2.2.1:Int)=b[i].2.2.1)&&decide ((x.2.2.2:Int)=b[i].2.2.2))))=decide (x=b[i]):=by
   apply Bool.eq_iff_iff.2
   simp[Prod.ext_iff]
  rw[this]
  cases decide (x=b[i])<;>rfl
theorem ajL (x y:aH):decide (x=y)=((x.1==y.1)&&((x.2.1==y.2.1)&&((x.2.2.1==y.2.2.1)&&((x.2.2.2.1==y.2.2.2.1)&&((x.2.2.2.2.1==y.2.2.2.2.1)&&decide (x.2.2.2.2.2=y.2.2.2.2.2)))))):=by
 apply Bool.eq_iff_iff.2
 simp[Prod.ext_iff]
theorem aeq (x y:bD):decide (x=y)=((x.1==y.1)&&((x.2.1==y.2.1)&&decide (x.2.2=y.2.2))):=by
 apply Bool.eq_iff_iff.2
 simp[Prod.ext_iff]
theorem o8 {N:Nat} {a b:List aH} {kf:Bool→Option ab} (hl:a.length≤maxLen) (hm:∀ x:aH,x∈a→x.met.length≤maxLen∧x.met.length<N) (hN:a.length<N):ai' N a b kf=kf (decide (a=b)):=by
 unfold ai'
 refine lens (A:=kf true) (fun h=>?_) (fun h=>decide_eq_false fun e=>h (by rw[e]))
 rw[aap hl hN,pX h (kf:=kf false) (fun i x next hi sO e=>?_)]
 ·cases decide (a=b)<;>rfl
 ·rw[aG sO,cond_true,Int.toNat_natCast,ax _ _ sO,ajL]
  obtain⟨m1,m2⟩:=hm x (by rw[←e];exact List.getElem_mem hi)
  unfold ai9
  rw[Ko m1 m2]
  cases x.1==b[i].1<;>simp
  cases x.2.1==b[i].2.1<;>simp
  cases x.2.2.1==b[i].2.2.1<;>simp
  cases x.2.2.2.1==b[i].2.2.2.1<;>simp
  cases x.2.2.2.2.1==b[i].2.2.2.2.1<;>simp
  all_goals (by_cases hq:x.2.2.2.2.2=b[i].2.2.2.2.2<;>simp[hq])
theorem nW {N:Nat} {a b:List bD} {kf:Bool→Option ab} (hl:a.length≤maxLen) (hm:∀ x:bD,x∈a→x.2.2.length≤maxLen∧x.2.2.length<N) (hN:a.length<N):ajb N a b kf=kf (decide (a=b)):=by
 unfold ajb
 refine lens (A:=kf true) (fun h=>?_) (fun h=>decide_eq_false fun e=>h (by rw[e]))
 rw[aaq hl hN,pX h (kf:=kf false) (fun i x next hi sO e=>?_)]
 ·cases decide (a=b)<;>rfl
 ·rw[aG sO,cond_true,Int.toNat_natCast,ax _ _ sO,aeq]
  obtain⟨m1,m2⟩:=hm x (by rw[←e];exact List.getElem_mem hi)
  unfold aja
  rw[Ko m1 m2]
  cases x.1==b[i].1<;>simp
  cases x.2.1==b[i].2.1<;>simp
  all_goals (by_cases hq:x.2.2=b[i].2.2<;>simp[hq])
def D4 (a b:aP):Bool:=decide (a.1=b.1)&&(decide (a.2.1=b.2.1)&&(decide (a.2.2.1=b.2.2.1)&&(decide (a.2.2.2.1=b.2.2.2.1)&&(decide (a.2.2.2.2.1=b.2.2.2.2.1)&&(decide (a.2.2.2.2.2.1=b.2.2.2.2.2.1)&&(a.2.2.2.2.2.2==b.2.2.2.2.2.2))))))
end Go.Pv.R
namespace Go.Pv.R
set_option linter.unusedVariables false
set_option linter.unusedSimpArgs false
theorem BD (c:aP):(bz c).length≤c.2.2.2.2.1.length:=C8 _ _
end Go.Pv.R
namespace Go.Pv.R
set_option linter.unusedVariables false
set_option linter.unusedSimpArgs false
theorem C' {α:Type}:∀ (l:List α) (i:Nat),ir (fun _ _=>true) (fun _ x=>x) l i=l
 |[],_=>rfl
 |x::r,i=>by simp only[ir,cond_true];rw[C' r (i+1)]
theorem uI {α:Type} {body:Nat→α→List α→(List α→Option ab)→Option ab} {dw:List α→Option ab} {l:List α}
  (hb:∀ (i:Nat) (x:α) (s:List α) (next:List α→Option ab) (h:i<l.length),l[i]=x→s.length≤i→body i x s next=next (s++[x])):c6 body dw l 0 []=dw l:=by
 rw[l6 (l:=l) (c:=fun _ _=>true) (f:=fun _ x=>x) (fun i x s next h e hs=>by rw[hb i x s next h e hs];rfl) l 0 [] rfl (by simp),C',List.nil_append]
theorem pY {α:Type} {l:List α} {b:Bool} {kf:List α→Option ab} (hb:b=true):
  (bif List.isEmpty l then both (kf []) (bif b then kf ([]++l) else none) else bif b then kf ([]++l) else none)=kf l:=by
 subst hb
 cases l with
 |nil=>exact m8 _
 |cons x r=>rfl
theorem D5 {N:Nat} {l:List Int} {kf:List Int→Option ab} (hl:l.length≤1048700):JF N l kf=kf l:=by
 exact pY (decide_eq_true (by simp only[List.length_nil];omega))
theorem ajM {N:Nat} {l:List cg} {kf:List cg→Option ab} (hl:l.length≤1048576):aiv N l kf=kf l:=pY (decide_eq_true (by simp only[List.length_nil];omega))
theorem ajN {N:Nat} {l:List QB} {kf:List QB→Option ab} (hl:l.length≤1048576):aiw N l kf=kf l:=pY (decide_eq_true (by simp only[List.length_nil];omega))
theorem Kp {N:Nat} {l:List QL} {kf:List QL→Option ab} (hl:l.length≤1048576):Zt N l kf=kf l:=pY (decide_eq_true (by simp only[List.length_nil];omega))
theorem rP {N:Nat} {l:List aH} {kf:List aH→Option ab} (hl:l.length≤1048700) (hm:∀ x:aH,x∈l→x.met.length≤1048700) (hN:l.length<N):FQ N l kf=kf l:=by
 have h0:=aN
 unfold FQ
 rw[Z2 (by omega) hN]
 refine uI (l:=l) fun i x s next h e hs=>?_
 have hx:x∈l:=by rw[←e];exact List.getElem_mem h
 have hxm:x.2.2.2.2.2.length≤1048700:=hm x hx
 rw[decide_eq_true (by simp only[List.length_nil];omega),decide_eq_true (by simp only[List.length_cons,List.length_nil];omega)]
 rfl
theorem Kq {N:Nat} {l:List bD} {kf:List bD→Option ab} (hl:l.length≤1048700) (hm:∀ x:bD,x∈l→x.2.2.length≤1048700) (hN:l.length<N):S7 N l kf=kf l:=by
 have h0:=aN
 unfold S7
 rw[Z3 (by omega) hN]
 refine uI (l:=l) fun i x s next h e hs=>?_
 have hx:x∈l:=by rw[←e];exact List.getElem_mem h
 have hxm:x.2.2.length≤1048700:=hm x hx
 rw[decide_eq_true (by simp only[List.length_nil];omega),decide_eq_true (by simp only[List.length_cons,List.length_nil];omega)]
 rfl
theorem Kr {N:Nat} {l:List aH} {kf:List aH→Option ab} (hl:l.length≤1048700) (hm:∀ x:aH,x∈l→x.met.length≤1048700) (hN:l.length<N):SH N l kf=kf l:=by
 have h0:=aN
 unfold SH
 rw[ZP (by omega) hN]
 refine uI (l:=l) fun i x s next h e hs=>?_
 have hx:x∈l:=by rw[←e];exact List.getElem_mem h
 have hxm:x.2.2.2.2.2.length≤1048700:=hm x hx
 rw[D5 hxm,decide_eq_true (by simp only[List.length_cons,List.length_nil];omega)]
 rfl
theorem ajO {N:Nat} {l:List bD} {kf:List bD→Option ab} (hl:l.length≤1048700) (hm:∀ x:bD,x∈l→x.2.2.length≤1048700) (hN:l.length<N):aiu N l kf=kf l:=by
 have h0:=aN
 unfold aiu
 rw[ZQ (by omega) hN]
 refine uI (l:=l) fun i x s next h e hs=>?_
 have hx:x∈l:=by rw[←e];exact List.getElem_mem h
 have hxm:x.2.2.length≤1048700:=hm x hx
 rw[D5 hxm,decide_eq_true (by simp only[List.length_cons,List.length_nil];omega)]
 rfl
theorem tM {N:Nat} {c:aP} {kf:aP→Option ab} (h:bV c N):Wo N c kf=kf c:=by
 have h0:=aN
 have h1:=h.rl
 have h2:=h.sl
 have h3:=h.bl
 have h4:=h.ml
 unfold Wo
 rw[rP h.tb h.tmb h.tN,Kq h.jb h.jmb h.jN,decide_eq_true (by simp only[List.length_nil];omega),decide_eq_true (by simp only[List.length_nil];omega),decide_eq_true (by simp only[List.length_nil];omega),decide_eq_true (by simp only[List.length_nil];omega)]
 rfl
theorem o9 {N:Nat} {c:aP} {kf:aP→Option ab} (h:bV c N):JG N c kf=kf c:=by
 have h0:=aN
 have h2:=h.sl
 unfold JG
 rw[Kr h.tb h.tmb h.tN,ajO h.jb h.jmb h.jN,ajM h.rl,D5 (by omega),ajN h.bl,Kp h.ml]
abbrev pZ:=QL
def IJ (l:List pZ):Int:=(l.getLast?.map fun x=>x.2.2.2).getD 0
theorem aer {l:List pZ} (h0:l≠[]):IJ l=(List.getD l (l.length - 1) Bm).2.2.2:=by
 unfold IJ
 rw[List.getLast?_eq_getElem?]
 have h1:l.length - 1<l.length:=by
  cases l with
  |nil=>exact absurd rfl h0
  |cons x r=>simp
 rw[List.getD_eq_getElem?_getD,List.getElem?_eq_getElem h1]
 rfl
theorem OY {l:List pZ} {kf:Int→Option ab} (hl:l.length≤maxLen):(bif ((List.length l:Int)==(0:Int)) then kf (0:Int) else
  bif (bC (IntKind.wrap .i64 ((List.length l:Int) - (1:Int))) (List.length l)) then kf (List.getD l (Int.toNat (IntKind.wrap .i64 ((List.length l:Int) - (1:Int)))) Bm).2.2.2 else none)=kf (IJ l):=by
 have hm:=aN
 cases l with
 |nil=>rfl
 |cons x r=>
  have e1:((List.length (x::r):Int)==(0:Int))=false:=by simp only[List.length_cons];exact beq_eq_false_iff_ne.2 (by omega)
  rw[wrap64 (n:=(List.length (x::r):Int) - 1) (by omega) (by omega)]
  have e2:(List.length (x::r):Int) - 1=((List.length (x::r) - 1:Nat):Int):=by simp only[List.length_cons];omega
  rw[e1,e2,aG (by simp),aer (by simp)]
  simp only[cond_true,cond_false,Int.toNat_natCast]
theorem ajP {N:Nat} {l:List pZ} {kf:Int→Option ab} (hl:l.length≤maxLen):arI N l kf=kf (IJ l):=OY hl
theorem ajQ {N:Nat} {l:List pZ} {kf:Int→Option ab} (hl:l.length≤maxLen):arl N l kf=kf (IJ l):=OY hl
def Gd (l:List pZ) (cq fY:Int):pZ:=((l.length:Int)+1,(cq,(fY,C6 (IJ l) ((l.length:Int)+1,(cq,(fY,0))))))
def lC (l:List pZ) (cq fY:Int):Bool:=fF (l++[Gd l cq fY])
def iJ (l:List pZ) (cq fY:Int):List pZ:=bif lC l cq fY then l++[Gd l cq fY] else l
theorem IK {l:List pZ} {cq fY:Int} (h:lC l cq fY=true):(iJ l cq fY).length≤200:=by
 unfold iJ
 rw[h]
 unfold lC fF at h
 simp only[Bool.and_eq_true,decide_eq_true_eq] at h
 exact h.1
theorem ajR {N:Nat} {l:List pZ} {cq fY:Int} {kf:List pZ→Bool→Option ab} (hl:l.length≤1048576) (hN:l.length+1<N) (h4:4<N):ai0 N l cq fY kf=kf (iJ l cq fY) (lC l cq fY):=by
 have hm:=aN
 unfold ai0
 rw[ajP (by omega),Ww h4,wrap64 (n:=(List.length l:Int)+1) (by omega) (by omega),decide_eq_true (by simp only[List.length_nil];omega)]
 simp only[List.nil_append,cond_true]
 rw[decide_eq_true (by simp only[List.length_cons,List.length_nil];omega),cond_true,Wy (by simp only[List.length_append,List.length_cons,List.length_nil];omega) (by simp only[List.length_append,List.length_cons,List.length_nil];omega) h4]
 show(bif (!lC l cq fY) then kf l false else kf (l++[Gd l cq fY]) true)=_
 unfold iJ
 cases lC l cq fY<;>rfl
theorem ajS {N:Nat} {l:List pZ} {cq fY:Int} {kf:List pZ→Bool→Option ab} (hl:l.length≤1048576) (hN:l.length+1<N) (h4:4<N):aiC N l cq fY kf=kf (iJ l cq fY) (lC l cq fY):=by
 have hm:=aN
 unfold aiC
 rw[ajQ (by omega),Wx h4,wrap64 (n:=(List.length l:Int)+1) (by omega) (by omega),Kp hl,decide_eq_true (by simp only[List.length_cons,List.length_nil];omega),cond_true,Kg (by simp only[List.length_append,List.length_cons,List.length_nil];omega) (by simp only[List.length_append,List.length_cons,List.length_nil];omega) h4,Kp hl]
 show(bif (!lC l cq fY) then kf l false else kf (l++[Gd l cq fY]) true)=_
 unfold iJ
 cases lC l cq fY<;>rfl
def mW (c:aP) (l:List pZ):aP:=(c.1,(c.2.1,(c.2.2.1,(c.2.2.2.1,(c.2.2.2.2.1,(l,c.2.2.2.2.2.2))))))
def ef (c out:aP) (cq fY:Int):Bool:=lC c.2.2.2.2.2.1 cq fY&&(cw c&&cw (mW out (iJ c.2.2.2.2.2.1 cq fY)))
def eG (c out:aP) (cq fY:Int):aP:=bif ef c out cq fY then mW out (iJ c.2.2.2.2.2.1 cq fY) else c
theorem Ge {c:aP} {N:Nat} {l:List pZ} (h:bV c N) (hl:l.length≤200) (hN:200<N):bV (mW c l) N:=
 ⟨h.tl,h.tm,h.tN,h.jl,h.jm,h.jN,h.rl,h.rN,h.sl,h.sN,h.bl,h.bN,by show l.length≤_;omega,by show l.length<_;omega,h.n8,h.tb,h.tmb,h.jb,h.jmb⟩
theorem wG {N:Nat} {c out:aP} {ok:Bool} {cq fY:Int} {kf:aP→Bool→Option ab} (h:bV c N) (ho:ok=true→bV out N) (hN:200<N) (hl:c.2.2.2.2.2.1.length+1<N):
  ZI N c out ok cq fY kf=bif ok then kf (eG c out cq fY) (ef c out cq fY) else kf c false:=by
 have h8:=h.n8
 unfold ZI
 rw[ajR h.ml hl (by omega)]
 simp only[tM h,D3 h]
 cases ok with
 |false=>rfl
 |true=>
  unfold eG ef
  cases hw:lC c.2.2.2.2.2.1 cq fY with
  |false=>rfl
  |true=>
   cases hc:cw c with
   |false=>rfl
   |true=>
    have:=D3 (N:=N) (kf:=fun r=>bif !r then kf c false else kf (mW out (iJ c.2.2.2.2.2.1 cq fY)) true) (Ge (ho rfl) (IK hw) hN)
    refine this.trans ?_
    simp only[Bool.true_and]
    cases cw (mW out (iJ c.2.2.2.2.2.1 cq fY))<;>rfl
theorem uJ {N:Nat} {c out:aP} {cq fY:Int} {kf:aP→Bool→Option ab} (h:bV c N) (ho:bV out N) (he:out.2.2.2.2.2.1=c.2.2.2.2.2.1) (hN:200<N) (hl:c.2.2.2.2.2.1.length+1<N):
  JO N c out cq fY kf=kf (eG c out cq fY) (ef c out cq fY):=by
 have h8:=h.n8
 unfold JO
 rw[he,ajS h.ml hl (by omega)]
 simp only[o9 h,nL h]
 unfold eG ef
 cases hw:lC c.2.2.2.2.2.1 cq fY with
 |false=>rfl
 |true=>
  cases hc:cw c with
  |false=>rfl
  |true=>
   have:=nL (N:=N) (kf:=fun r=>bif !r then kf c false else kf (mW out (iJ c.2.2.2.2.2.1 cq fY)) true) (Ge ho (IK hw) hN)
   refine this.trans ?_
   simp only[Bool.true_and]
   cases cw (mW out (iJ c.2.2.2.2.2.1 cq fY))<;>rfl
theorem oN {c:aP} (h:cw c=true):c.2.2.2.1.length=c.2.2.1.length∧c.2.2.2.2.1.length=c.2.2.1.length:=by
 unfold cw at h
 simp only[Bool.and_eq_true,decide_eq_true_eq] at h
 exact⟨h.2.2.2.1,h.2.2.2.2.1⟩
def mF (c:aP) (p f s:Int):eN:=(c.2.2.2.1.getD p.toNat 0,(f,s))
def ajT (c:aP) (l:List eN):aP:=(c.1,(c.2.1,(c.2.2.1,(c.2.2.2.1,(l,c.2.2.2.2.2)))))
def oO (c:aP) (p f s:Int):Bool:=cw c&&((decide (0≤p)&&decide (p<c.2.2.1.length))&&(gP (c.2.2.2.2.1.getD p.toNat gU)&&cC (mF c p f s)))
def mG (c:aP) (p f s:Int):aP:=ajT c (c.2.2.2.2.1.set p.toNat (mF c p f s))
theorem OZ {c:aP} {N:Nat} (h:bV c N) (p f s:Int):bV (mG c p f s) N:=
 ⟨h.tl,h.tm,h.tN,h.jl,h.jm,h.jN,h.rl,h.rN,h.sl,h.sN,by show(List.set _ _ _).length≤_;rw[List.length_set];exact h.bl,by show(List.set _ _ _).length<_;rw[List.length_set];exact h.bN,h.ml,h.mN,h.n8,h.tb,h.tmb,h.jb,h.jmb⟩
theorem ajU {N:Nat} {c:aP} {p f s:Int} {kf:aP→Bool→Option ab} (h:bV c N) (hN:200<N) (hl:c.2.2.2.2.2.1.length+1<N):
  Tm N c p f s kf=bif oO c p f s then kf (eG c (mG c p f s) 4 (mF c p f s).1) (ef c (mG c p f s) 4 (mF c p f s).1) else kf c false:=by
 have hm:=aN
 have hr:=h.rl
 unfold Tm
 rw[tM h,D3 h]
 unfold oO
 cases hc:cw c with
 |false=>rfl
 |true=>
  obtain⟨l1,l2⟩:=oN hc
  simp only[Bool.not_true,cond_false,Bool.true_and]
  rw[wrap64 (n:=(List.length c.2.2.1:Int) - 1) (by omega) (by omega),mT]
  by_cases hp:0≤p∧p<c.2.2.1.length
  rotate_left
  ·have e1:jn p 0 ((List.length c.2.2.1:Int) - 1)=false:=by
    cases hx:jn p 0 ((List.length c.2.2.1:Int) - 1) with
    |false=>rfl
    |true=>rw[uH] at hx;exact absurd ⟨hx.1,by omega⟩ hp
   have e2:(decide (0≤p)&&decide (p<c.2.2.1.length))=false:=by
    cases hx:(decide (0≤p)&&decide (p<c.2.2.1.length)) with
    |false=>rfl
    |true=>simp only[Bool.and_eq_true,decide_eq_true_eq] at hx;exact absurd hx hp
   rw[e1,e2]
   rfl
  ·obtain⟨hp0,hp1⟩:=hp
   obtain⟨i,rfl⟩:∃ i:Nat,p=(i:Int):=⟨p.toNat,by omega⟩
   have e1:jn (i:Int) 0 ((List.length c.2.2.1:Int) - 1)=true:=uH.2 ⟨by omega,by omega⟩
   have e2:(decide (0≤(i:Int))&&decide ((i:Int)<c.2.2.1.length))=true:=by simp only[Bool.and_eq_true,decide_eq_true_eq];omega
   rw[e1,e2]
   simp only[Bool.not_true,cond_false,Bool.true_and,Int.toNat_natCast,List.length_set]
   rw[aG (show i<c.2.2.2.2.1.length by omega),aG (show i<c.2.2.2.1.length by omega)]
   simp only[cond_true]
   have e3:List.getD (List.set c.2.2.2.2.1 i (List.getD c.2.2.2.1 i (0:Int),(f,s))) i gU=(List.getD c.2.2.2.1 i (0:Int),(f,s)):=by
    rw[List.getD_eq_getElem?_getD,List.getElem?_set_self (by omega)]
    rfl
   rw[e3,Kk]
   show(bif !gP (List.getD c.2.2.2.2.1 i gU) then kf c false else _)=_
   cases gP (List.getD c.2.2.2.2.1 i gU) with
   |false=>rfl
   |true=>
    simp only[Bool.not_true,cond_false,Bool.true_and]
    exact wG (out:=mG c (i:Int) f s) h (fun _=>OZ h _ _ _) hN hl
theorem ar8 {N:Nat} {c:aP} {p f s:Int} {kf:aP→Bool→Option ab} (h:bV c N) (hN:200<N) (hl:c.2.2.2.2.2.1.length+1<N):
  I35 N c p f s kf=bif oO c p f s then kf (eG c (mG c p f s) 4 (mF c p f s).1) (ef c (mG c p f s) 4 (mF c p f s).1) else kf c false:=by
 have hm:=aN
 have hr:=h.rl
 unfold I35
 rw[o9 h,nL h]
 unfold oO
 cases hc:cw c with
 |false=>rfl
 |true=>
  obtain⟨l1,l2⟩:=oN hc
  simp only[Bool.not_true,cond_false,Bool.true_and]
  by_cases hp:0≤p∧p<c.2.2.1.length
  rotate_left
  ·have e2:(decide (0≤p)&&decide (p<c.2.2.1.length))=false:=by
    cases hx:(decide (0≤p)&&decide (p<c.2.2.1.length)) with
    |false=>rfl
    |true=>simp only[Bool.and_eq_true,decide_eq_true_eq] at hx;exact absurd hx hp
   rw[e2]
   by_cases h0:p<0
   ·rw[decide_eq_true h0];rfl
   ·rw[decide_eq_false h0,decide_eq_true (show p≥(List.length c.2.2.1:Int) by omega)];rfl
  ·obtain⟨hp0,hp1⟩:=hp
   obtain⟨i,rfl⟩:∃ i:Nat,p=(i:Int):=⟨p.toNat,by omega⟩
   have e2:(decide (0≤(i:Int))&&decide ((i:Int)<c.2.2.1.length))=true:=by simp only[Bool.and_eq_true,decide_eq_true_eq];omega
   rw[decide_eq_false (show ¬(i:Int)<0 by omega),decide_eq_false (show ¬(i:Int)≥(List.length c.2.2.1:Int) by omega),e2]
   simp only[cond_false,Bool.true_and,Int.toNat_natCast]
   rw[aG (show i<c.2.2.2.2.1.length by omega),aG (show i<c.2.2.2.1.length by omega),Kl]
   simp only[cond_true]
   show(bif !gP (List.getD c.2.2.2.2.1 i gU) then kf c false else _)=_
   cases gP (List.getD c.2.2.2.2.1 i gU) with
   |false=>rfl
   |true=>
    simp only[Bool.not_true,cond_false,Bool.true_and]
    show(bif !cC (mF c (i:Int) f s) then kf c false else _)=_
    cases cC (mF c (i:Int) f s) with
    |false=>rfl
    |true=>exact uJ (out:=mG c (i:Int) f s) h (OZ h _ _ _) rfl hN hl
end Go.Pv.R
namespace Go.Pv
set_option linter.unusedVariables false
set_option linter.unusedSimpArgs false
abbrev DI (l:List Int):Prop:=l.Pairwise (· < ·)
theorem WG:∀ {a b:List Int},DI a→DI b→(∀ x,x∈a↔x∈b)→a=b
 |[],[],_,_,_=>rfl
 |[],y::b,_,_,h=>by have:=(h y).2 (by simp);simp at this
 |x::a,[],_,_,h=>by have:=(h x).1 (by simp);simp at this
 |x::a,y::b,ha,hb,h=>by
  rw[DI,List.pairwise_cons] at ha hb
  have AM:x=y:=by
   have h1:=(h x).1 (by simp)
   have h2:=(h y).2 (by simp)
   rcases List.mem_cons.1 h1 with h1 |h1
   ·exact h1
   ·rcases List.mem_cons.1 h2 with h2 |h2
    ·exact h2.symm
    ·have:=hb.1 x h1
     have:=ha.1 y h2
     omega
  subst AM
  congr 1
  refine WG ha.2 hb.2 fun z=>?_
  constructor
  ·intro hz
   rcases List.mem_cons.1 ((h z).1 (by simp[hz])) with e |e
   ·subst e;have:=ha.1 z hz;omega
   ·exact e
  ·intro hz
   rcases List.mem_cons.1 ((h z).2 (by simp[hz])) with e |e
   ·subst e;have:=hb.1 z hz;omega
   ·exact e
def mv:List Int→Int→List Int
 |[],n=>[n]
 |x::r,n=>bif decide (x<n) then x::mv r n else bif x==n then x::r else n::x::r
theorem yD:∀ (l:List Int) (n x:Int),x∈mv l n↔x=n∨x∈l
 |[],n,x=>by simp[mv]
 |y::r,n,x=>by
  simp only[mv]
  by_cases h:y<n
  ·rw[decide_eq_true h,cond_true,List.mem_cons,yD r n x,List.mem_cons]
   constructor
   ·rintro(h |h |h)<;>simp[h]
   ·rintro(h |h |h)<;>simp[h]
  ·rw[decide_eq_false h,cond_false]
   by_cases e:y=n
   ·subst e;simp
   ·rw[beq_eq_false_iff_ne.2 e,cond_false];simp
theorem tO:∀ {l:List Int} {n:Int},DI l→DI (mv l n)
 |[],n,_=>by simp[mv,DI]
 |y::r,n,h=>by
  rw[DI,List.pairwise_cons] at h
  simp only[mv]
  by_cases hy:y<n
  ·rw[decide_eq_true hy,cond_true,DI,List.pairwise_cons]
   refine⟨fun z hz=>?_,tO h.2⟩
   rcases(yD r n z).1 hz with e |e
   ·omega
   ·exact h.1 z e
  ·rw[decide_eq_false hy,cond_false]
   by_cases e:y=n
   ·subst e
    simp only[beq_self_eq_true,cond_true,DI,List.pairwise_cons]
    exact h
   ·rw[beq_eq_false_iff_ne.2 e,cond_false,DI,List.pairwise_cons,List.pairwise_cons]
    refine⟨fun z hz=>?_,h⟩
    rcases List.mem_cons.1 hz with e2 |e2
    ·omega
    ·have:=h.1 z e2;omega
theorem yE:∀ (l:List Int) (n:Int),(mv l n).length≤l.length+1
 |[],n=>by simp[mv]
 |y::r,n=>by
  simp only[mv]
  have:=yE r n
  cases decide (y<n) with
  |true=>simp only[cond_true,List.length_cons];omega
  |false=>cases y==n<;>simp
theorem aau (l:List Int) (x:Int):x∈mC l↔x∈l:=List.mem_mergeSort
theorem aes (l:List Int):(mC l).Pairwise (·≤·):=by
 have:=List.pairwise_mergeSort (le:=fun x y:Int=>decide (x≤y)) (fun a b c=>by simp only[decide_eq_true_eq];omega) (fun a b=>by simp only[Bool.or_eq_true,decide_eq_true_eq];omega) l
 exact this.imp fun {a b} h=>by simpa using h
theorem lD:∀ (r:List Int) (x:Int),(x::r).Pairwise (·≤·)→DI (x::dO x r)∧∀ z,z∈x::dO x r↔z∈x::r
 |[],x,_=>by simp[dO,DI]
 |y::r,x,h=>by
  rw[List.pairwise_cons] at h
  simp only[dO]
  by_cases e:y=x
  ·subst e
   simp only[beq_self_eq_true,cond_true]
   obtain⟨h1,h2⟩:=lD r y h.2
   refine⟨h1,fun z=>(h2 z).trans ?_⟩
   simp
  ·rw[beq_eq_false_iff_ne.2 e,cond_false]
   obtain⟨h1,h2⟩:=lD r y h.2
   have cZ:x<y:=by have:=h.1 y (by simp);omega
   refine⟨?_,fun z=>?_⟩
   ·rw[DI,List.pairwise_cons]
    refine⟨fun z hz=>?_,h1⟩
    have h3:DI (y::dO y r):=h1
    rw[DI,List.pairwise_cons] at h3
    rcases List.mem_cons.1 hz with e2 |e2
    ·omega
    ·have:=h3.1 z e2;omega
   ·rw[List.mem_cons,h2 z]
    simp only[List.mem_cons]
theorem HP (l:List Int) (h:l.Pairwise (·≤·)):DI (eF l)∧∀ z,z∈eF l↔z∈l:=by
 cases l with
 |nil=>simp[eF,DI]
 |cons x r=>exact lD r x h
end Go.Pv
namespace Go.Pv.R
set_option linter.unusedVariables false
set_option linter.unusedSimpArgs false
def gV:List Int→Int→Nat
 |[],_=>0
 |x::r,n=>bif decide (x<n) then gV r n+1 else 0
theorem WH:∀ (l:List Int) (n:Int),gV l n≤l.length
 |[],_=>Nat.le_refl _
 |x::r,n=>by
  simp only[gV]
  have:=WH r n
  cases decide (x<n)<;>simp<;>omega
theorem O0:∀ (l:List Int) (n:Int),mv l n=bif decide (gV l n<l.length)&&(l.getD (gV l n) 0==n) then l else l.take (gV l n)++[n]++l.drop (gV l n)
 |[],n=>rfl
 |x::r,n=>by
  by_cases h:x<n
  ·have hc:gV (x::r) n=gV r n+1:=by simp only[gV];rw[decide_eq_true h];rfl
   have hp:mv (x::r) n=x::mv r n:=by simp only[mv];rw[decide_eq_true h];rfl
   rw[hc,hp,O0 r n]
   simp only[List.length_cons,List.getD_cons_succ,List.take_succ_cons,List.drop_succ_cons]
   rw[show decide (gV r n+1<r.length+1)=decide (gV r n<r.length) from decide_eq_decide.2 (by omega)]
   cases (decide (gV r n<r.length)&&(r.getD (gV r n) 0==n))<;>simp
  ·have hc:gV (x::r) n=0:=by simp only[gV];rw[decide_eq_false h];rfl
   have hp:mv (x::r) n=bif x==n then x::r else n::x::r:=by simp only[mv];rw[decide_eq_false h];rfl
   rw[hc,hp]
   simp only[List.length_cons,List.getD_cons_zero,List.take_zero,List.drop_zero]
   rw[decide_eq_true (show 0<r.length+1 by omega),Bool.true_and]
   cases x==n<;>simp
theorem WI {n:Int} {k:Int→Option ab}:∀ (r:List Int) (i m:Nat),i+r.length=m→lX (fun(i:Nat) (x:Int) (next:Option ab)=>bif (decide (x<n)) then next else k (i:Int)) (k (m:Int)) r i=k ((i+gV r n:Nat):Int)
 |[],i,m,h=>by simp only[lX,gV];rw[←h];rfl
 |x::r,i,m,h=>by
  simp only[lX,gV]
  cases decide (x<n) with
  |true=>
   simp only[cond_true]
   rw[WI r (i+1) m (by simp only[List.length_cons] at h;omega)]
   congr 1
   omega
  |false=>simp only[cond_false,Nat.add_zero]
theorem WJ {N:Nat} {l:List Int} {n:Int} {kf:List Int→Option ab} (hl:l.length≤1048576) (hN:l.length<N):wE N l n kf=kf (mv l n):=by
 have hm:=aN
 unfold wE
 rw[aal (by omega) hN]
 have hc:=WH l n
 have h2:(decide ((List.length ([]:List Int)+List.length l)*1≤4398046511104))=true:=decide_eq_true (by simp only[List.length_nil];omega)
 have hj:uE l n kf (gV l n:Int)=kf (l.take (gV l n)++[n]++l.drop (gV l n)):=by
  unfold uE
  have d1:(decide ((0:Int)≤(0:Int))&&decide ((0:Int)≤(gV l n:Int))&&decide ((gV l n:Int)≤(List.length l:Int)))=true:=by simp;omega
  have d2:(decide ((0:Int)≤(gV l n:Int))&&decide ((gV l n:Int)≤(List.length l:Int))&&decide ((List.length l:Int)≤(List.length l:Int)))=true:=by simp;omega
  rw[d1,d2]
  have e1:List.drop (Int.toNat 0) (List.take (Int.toNat (gV l n:Int)) l)=l.take (gV l n):=by simp
  have e2:List.drop (Int.toNat (gV l n:Int)) (List.take (Int.toNat (List.length l:Int)) l)=l.drop (gV l n):=by simp
  rw[e1,e2]
  have l1:(l.take (gV l n)).length=gV l n:=by rw[List.length_take];omega
  have l2:(l.drop (gV l n)).length=l.length - gV l n:=List.length_drop
  rw[decide_eq_true (by simp only[List.length_nil];omega),decide_eq_true (by simp only[List.length_append,List.length_cons,List.length_nil];omega),decide_eq_true (by simp only[List.length_append,List.length_cons,List.length_nil];omega)]
  simp only[cond_true,List.nil_append]
 have:=WI (n:=n) (k:=fun(mS:Int)=>
  bif (decide (mS<(List.length l:Int))) then
   bif (bC mS (List.length l)) then
    bif ((List.getD l (Int.toNat mS) (0:Int))==n) then
     bif (decide ((List.length ([]:(List Int))+List.length l)*1≤4398046511104)) then
      kf (([]:(List Int))++l)
     else none
    else
     uE l n kf mS
   else none
  else
   uE l n kf mS) l 0 l.length (by omega)
 refine this.trans ?_
 simp only[Nat.zero_add]
 rw[hj,O0]
 by_cases cZ:gV l n<l.length
 ·rw[decide_eq_true (show(gV l n:Int)<(List.length l:Int) by omega),decide_eq_true cZ,aG cZ,Int.toNat_natCast,h2]
  simp only[cond_true,Bool.true_and,List.nil_append]
  cases List.getD l (gV l n) 0==n<;>rfl
 ·rw[decide_eq_false (show ¬(gV l n:Int)<(List.length l:Int) by omega),decide_eq_false cZ]
  rfl
theorem ajV {N:Nat} {l:List Int} {kf:List Int→Option ab} (hl:l.length≤1048576):ZE N l kf=kf (mC l):=by
 unfold ZE
 have:Nat.blt (List.length l) 4611686018427387904=true:=Nat.ble_eq_true_of_le (by omega)
 rw[this]
 rfl
theorem ajW {N:Nat} {l:List Int} {kf:List Int→Option ab}:adM N l kf=kf (eF l):=rfl
end Go.Pv.R
namespace Go.Pv.R
set_option linter.unusedVariables false
set_option linter.unusedSimpArgs false
theorem p4 {α:Type} (l:List α) (k:Nat):List.drop (Int.toNat 0) (List.take k l)=l.take k∧List.drop k (List.take (List.length l) l)=l.drop k:=by simp
def BE (c:aP) (l:List aH):aP:=(l,c.2)
def WK (c:aP) (k:Nat):aP:=BE c (c.1.take k++c.1.drop (k+1))
theorem yF {c:aP} {N:Nat} {l:List aH} (h:bV c N) (hl:l.length≤1048700) (hN:l.length<N) (hm:∀ x:aH,x∈l→x.met.length≤1048700∧x.met.length<N):bV (BE c l) N:=by
 have h0:=aN
 exact⟨by show l.length≤_;omega,fun x hx=>⟨by have:=(hm x hx).1;omega,(hm x hx).2⟩,hN,h.jl,h.jm,h.jN,h.rl,h.rN,h.sl,h.sN,h.bl,h.bN,h.ml,h.mN,h.n8,hl,fun x hx=>(hm x hx).1,h.jb,h.jmb⟩
theorem O1 {c:aP} {N:Nat} (h:bV c N) (k:Nat):bV (WK c k) N:=by
 have h1:=h.tb
 have h2:=h.tN
 have hl:(c.1.take k++c.1.drop (k+1)).length≤c.1.length:=by rw[List.length_append,List.length_take,List.length_drop];omega
 refine yF h (by omega) (by omega) fun x hx=>?_
 have xY:x∈c.1:=by
  rcases List.mem_append.1 hx with hx |hx
  ·exact List.mem_of_mem_take hx
  ·exact List.mem_of_mem_drop hx
 exact⟨h.tmb x xY,(h.tm x xY).2⟩
def kS (c:aP) (id:Int):Bool:=decide (0≤aI c.1 id)&&(decide (c.2.2.1.length=0)&&decide ((c.1.getD (aI c.1 id).toNat aC).2.2.2.2.2.length=0))
def jd (c:aP) (id:Int):aP:=WK c (aI c.1 id).toNat
theorem yG {N:Nat} {c:aP} {id:Int} {kf:aP→Bool→Option ab} (h:bV c N) (hN:200<N) (hl:c.2.2.2.2.2.1.length+1<N):
  nI N c id kf=bif kS c id then kf (eG c (jd c id) 6 id) (ef c (jd c id) 6 id) else kf c false:=by
 have hm:=aN
 have htb:=h.tb
 unfold nI
 rw[tM h,kQ h.tl h.tN]
 unfold S94 kS jd
 by_cases hf:aI c.1 id<0
 ·rw[decide_eq_true hf,decide_eq_false (show ¬ 0≤aI c.1 id by omega)]
  rfl
 ·obtain⟨k,hk,he,_⟩:=ck (p:=fun x:aH=>x.1==id) (l:=c.1) hf
  have he':aI c.1 id=(k:Int):=he
  rw[he',decide_eq_false (show ¬(k:Int)<0 by omega),decide_eq_true (show 0≤(k:Int) by omega)]
  simp only[cond_false,Bool.true_and,Int.toNat_natCast]
  by_cases hr:c.2.2.1.length=0
  rotate_left
  ·rw[decide_eq_true (show(List.length c.2.2.1:Int)>0 by omega),decide_eq_false hr]
   rfl
  ·rw[decide_eq_false (show ¬(List.length c.2.2.1:Int)>0 by omega),decide_eq_true hr,aG hk]
   simp only[cond_false,cond_true,Bool.true_and]
   by_cases aet:(c.1.getD k aC).2.2.2.2.2.length=0
   rotate_left
   ·rw[decide_eq_true (show(List.length (c.1.getD k aC).2.2.2.2.2:Int)>0 by omega),decide_eq_false aet]
    rfl
   ·rw[decide_eq_false (show ¬(List.length (c.1.getD k aC).2.2.2.2.2:Int)>0 by omega),decide_eq_true aet,wrap64 (n:=(k:Int)+1) (by omega) (by omega)]
    have d1:(decide ((0:Int)≤(0:Int))&&true&&decide ((k:Int)≤(List.length c.1:Int)))=true:=by simp;omega
    have d2:(decide ((0:Int)≤(k:Int)+1)&&decide ((k:Int)+1≤(List.length c.1:Int))&&decide ((List.length c.1:Int)≤(List.length c.1:Int)))=true:=by simp;omega
    have e3:Int.toNat ((k:Int)+1)=k+1:=by omega
    rw[d1,d2,e3,(p4 c.1 k).1,(p4 c.1 (k+1)).2]
    simp only[cond_true,cond_false]
    have l1:(c.1.take k).length≤c.1.length:=by rw[List.length_take];omega
    have l2:(c.1.drop (k+1)).length≤c.1.length:=by rw[List.length_drop];omega
    rw[rP (by omega) (fun x hx=>h.tmb x (List.mem_of_mem_take hx)) (by have:=h.tN;omega),rP (by omega) (fun x hx=>h.tmb x (List.mem_of_mem_drop hx)) (by have:=h.tN;omega),decide_eq_true (by omega),cond_true]
    exact wG (out:=WK c k) h (fun _=>O1 h k) hN hl
theorem ar9 {N:Nat} {c:aP} {id:Int} {kf:aP→Bool→Option ab} (h:bV c N) (hN:200<N) (hl:c.2.2.2.2.2.1.length+1<N):
  I38 N c id kf=bif kS c id then kf (eG c (jd c id) 6 id) (ef c (jd c id) 6 id) else kf c false:=by
 have hm:=aN
 have htb:=h.tb
 unfold I38
 rw[o9 h,lB h.tl h.tN]
 unfold Om kS jd
 by_cases hf:aI c.1 id<0
 ·rw[decide_eq_true hf,decide_eq_false (show ¬ 0≤aI c.1 id by omega)]
  rfl
 ·obtain⟨k,hk,he,_⟩:=ck (p:=fun x:aH=>x.1==id) (l:=c.1) hf
  have he':aI c.1 id=(k:Int):=he
  rw[he',decide_eq_false (show ¬(k:Int)<0 by omega),decide_eq_true (show 0≤(k:Int) by omega),Int.toNat_natCast,aG hk]
  simp only[cond_false,cond_true,Bool.true_and]
  by_cases aet:(c.1.getD k aC).2.2.2.2.2.length=0
  rotate_left
  ·rw[decide_eq_true (show(List.length (c.1.getD k aC).2.2.2.2.2:Int)>0 by omega),decide_eq_false aet,Bool.and_false]
   rfl
  ·rw[decide_eq_false (show ¬(List.length (c.1.getD k aC).2.2.2.2.2:Int)>0 by omega),decide_eq_true aet]
   by_cases hr:c.2.2.1.length=0
   rotate_left
   ·rw[decide_eq_true (show(List.length c.2.2.1:Int)>0 by omega),decide_eq_false hr]
    rfl
   ·rw[decide_eq_false (show ¬(List.length c.2.2.1:Int)>0 by omega),decide_eq_true hr,wrap64 (n:=(k:Int)+1) (by omega) (by omega)]
    simp only[cond_false,Bool.and_true,cond_true]
    unfold arE
    have d1:(decide ((0:Int)≤(k:Int))&&(decide ((k:Int)≤(k:Int)+1)&&decide ((k:Int)+1≤(List.length c.1:Int))))=true:=by simp;omega
    have e3:Int.toNat ((k:Int)+1)=k+1:=by omega
    rw[d1,e3,Int.toNat_natCast,cond_true]
    exact uJ (out:=WK c k) h (O1 h k) rfl hN hl
end Go.Pv.R
namespace Go.Pv.R
set_option linter.unusedVariables false
set_option linter.unusedSimpArgs false
end Go.Pv.R
namespace Go.Pv.R
set_option linter.unusedVariables false
set_option linter.unusedSimpArgs false
theorem aeu {α:Type} {l:List α} {z:α} {g:α→Int} (h:∀ (i:Nat) (hi:i<l.length),0<i→g (l.getD (i - 1) z)<g l[i]):∀ (j i:Nat) (hi:i<l.length),j<i→g (l.getD j z)<g l[i]:=by
 intro j i
 induction i with
 |zero=>intro _ hj;omega
 |succ i ih=>
  intro hi hj
  have h1:=h (i+1) hi (by omega)
  rw[Nat.add_sub_cancel] at h1
  by_cases e:j=i
  ·subst e;exact h1
  ·have h2:=ih (by omega) (by omega)
   rw[ax _ _ (by omega)] at h1
   omega
theorem aev {α:Type} {xs:List α} {x z:α} {g:α→Int} {k:Nat} (hk:k≤xs.length) (hm:∀ (j i:Nat) (hi:i<(xs.take k++[x]++xs.drop k).length),j<i→g ((xs.take k++[x]++xs.drop k).getD j z)<g (xs.take k++[x]++xs.drop k)[i]):
  ∀ (i:Nat) (hi:i<xs.length),g xs[i]≠g x:=by
 intro i hi he
 have hl:(xs.take k++[x]++xs.drop k).length=xs.length+1:=by simp only[List.length_append,List.length_take,List.length_drop,List.length_cons,List.length_nil];omega
 have cZ:(xs.take k).length=k:=by rw[List.length_take];omega
 have hkx:∀ (h:k<(xs.take k++[x]++xs.drop k).length),(xs.take k++[x]++xs.drop k)[k]=x:=fun h=>by
  rw[List.getElem_append_left (by rw[List.length_append,cZ];simp),List.getElem_append_right (by omega)]
  simp[cZ]
 by_cases hik:i<k
 ·have h1:=hm i k (by omega) hik
  rw[ax _ _ (by omega),hkx,List.getElem_append_left (by rw[List.length_append,cZ];simp;omega),List.getElem_append_left (by omega),List.getElem_take] at h1
  omega
 ·have h1:=hm k (i+1) (by omega) (by omega)
  rw[ax _ _ (by omega),hkx,List.getElem_append_right (by rw[List.length_append,cZ];simp;omega),List.getElem_drop] at h1
  have e2:k+(i+1 - (xs.take k++[x]).length)=i:=by rw[List.length_append,cZ];simp;omega
  simp only[e2] at h1
  omega
theorem tP {α:Type} {p:α→Bool} {k:Int→Option ab}:∀ (r:List α) (i m:Nat),i+r.length=m→lX (fun(i:Nat) (x:α) (next:Option ab)=>bif p x then next else k (i:Int)) (k (m:Int)) r i=k ((i+(r.takeWhile p).length:Nat):Int)
 |[],i,m,h=>by
  simp only[List.length_nil,Nat.add_zero] at h
  subst h
  rfl
 |x::r,i,m,h=>by
  simp only[List.length_cons] at h
  simp only[lX,List.takeWhile_cons]
  cases hp:p x with
  |false=>rfl
  |true=>
   simp only[cond_true,if_true,List.length_cons]
   rw[tP r (i+1) m (by omega)]
   congr 2
   omega
theorem vC {α:Type} (p:α→Bool) (l:List α):(l.takeWhile p).length≤l.length:=(List.takeWhile_sublist p).length_le
theorem awo {α:Type} {xs:List α} {x:α} {k s:Nat} (hk:k≤xs.length) (hl:xs.length≤1048700) (hs:s≤8):(decide ((0:Int)≤(k:Int))&&(decide ((k:Int)≤(List.length xs:Int))&&(Nat.blt 0 (List.length [x])&&Nat.ble ((List.length xs+List.length [x])*s) 4398046511104)))=true:=by
 have h1:(List.length xs+List.length [x])*s≤1048701*8:=Nat.mul_le_mul (by simp;omega) hs
 rw[decide_eq_true (by omega),decide_eq_true (by omega)]
 simp only[Bool.true_and,Bool.and_eq_true]
 exact⟨rfl,by rw[Nat.ble_eq];omega⟩
def Gf (id bJ:Int):aH:=(id,(bJ,(0,(0,(0,[])))))
def kT (l:List aH) (id:Int):Nat:=(l.takeWhile fun x=>decide (x.1<id)).length
def jv (c:aP) (id bJ:Int):aP:=BE c (c.1.take (kT c.1 id)++[Gf id bJ]++c.1.drop (kT c.1 id))
theorem D6 (l:List aH) (id:Int):kT l id≤l.length:=vC _ _
theorem Gg {α:Type} {xs:List α} {x y:α} {k:Nat} (h:y∈xs.take k++[x]++xs.drop k):y∈xs∨y=x:=by
 rcases List.mem_append.1 h with h |h
 ·rcases List.mem_append.1 h with h |h
  ·exact .inl (List.mem_of_mem_take h)
  ·exact .inr (List.mem_singleton.1 h)
 ·exact .inl (List.mem_of_mem_drop h)
theorem aew {α:Type} {xs:List α} {x:α} {k:Nat} (hk:k≤xs.length):(xs.take k++[x]++xs.drop k).length=xs.length+1:=by
 simp only[List.length_append,List.length_take,List.length_drop,List.length_cons,List.length_nil];omega
theorem O2 {c:aP} {N:Nat} {id bJ:Int} (h:bV c N) (hb:c.1.length≤1048576) (hN:c.1.length+1<N):bV (jv c id bJ) N:=by
 have hl:=aew (x:=Gf id bJ) (D6 c.1 id)
 have h8:=h.n8
 refine yF h (by omega) (by omega) fun x hx=>?_
 rcases Gg hx with hx |rfl
 ·exact⟨h.tmb x hx,(h.tm x hx).2⟩
 ·exact⟨by show(0:Nat)≤_;omega,by show(0:Nat)<_;omega⟩
theorem O3 {c:aP} {id bJ:Int} (h:aK (jv c id bJ).1=true):aI c.1 id<0:=by
 unfold aK at h
 simp only[Bool.and_eq_true] at h
 have hm:=rM h.2.1
 have pj:=aev (xs:=c.1) (x:=Gf id bJ) (z:=aC) (g:=fun x:aH=>x.1) (D6 c.1 id) hm
 by_cases hf:aI c.1 id<0
 ·exact hf
 ·obtain⟨k,hk,_,h1,_⟩:=ck (p:=fun x:aH=>x.1==id) (l:=c.1) hf
  exact absurd (beq_iff_eq.1 h1) (pj k hk)
theorem ajX {c:aP} {id bJ:Int} (hf: ¬aI c.1 id<0):ef c (jv c id bJ) 1 id=false:=by
 cases hd:ef c (jv c id bJ) 1 id with
 |false=>rfl
 |true=>
  unfold ef cw at hd
  simp only[Bool.and_eq_true] at hd
  exact absurd (O3 hd.2.2.1) hf
theorem Tx {N:Nat} {c z:aP} {id bJ:Int} {k:Int→Option ab} (h:bV c N):oJ id bJ c z c N k (0:Int)=k ((kT c.1 id:Nat):Int):=by
 rw[aam h.tl h.tN,tP c.1 0 c.1.length (by omega),Nat.zero_add]
 rfl
theorem ajY {N:Nat} {c:aP} {id bJ:Int} {kf:aP→Bool→Option ab} (h:bV c N) (hb:c.1.length≤1048576) (hN1:c.1.length+1<N) (hN:200<N) (hl:c.2.2.2.2.2.1.length+1<N):
  Tl N c id bJ kf=bif decide (c.2.2.1.length=0) then kf (eG c (jv c id bJ) 1 id) (ef c (jv c id bJ) 1 id) else kf c false:=by
 have hm:=aN
 have hk:=D6 c.1 id
 unfold Tl
 rw[tM h,Tx h]
 show(bif (decide ((0:Int)≤(0:Int))&&decide ((0:Int)≤((kT c.1 id:Nat):Int))&&decide (((kT c.1 id:Nat):Int)≤(List.length c.1:Int))) then _ else _)=_
 have d1:(decide ((0:Int)≤(0:Int))&&decide ((0:Int)≤((kT c.1 id:Nat):Int))&&decide (((kT c.1 id:Nat):Int)≤(List.length c.1:Int)))=true:=by simp;omega
 have d2:(decide ((0:Int)≤((kT c.1 id:Nat):Int))&&decide (((kT c.1 id:Nat):Int)≤(List.length c.1:Int))&&decide ((List.length c.1:Int)≤(List.length c.1:Int)))=true:=by simp;omega
 have l1:(c.1.take (kT c.1 id)).length≤c.1.length:=by rw[List.length_take];omega
 have l2:(c.1.drop (kT c.1 id)).length≤c.1.length:=by rw[List.length_drop];omega
 rw[d1,cond_true,Int.toNat_natCast,(p4 c.1 (kT c.1 id)).1,rP (by omega) (fun x hx=>h.tmb x (List.mem_of_mem_take hx)) (by omega),decide_eq_true (by simp only[List.length_cons,List.length_nil];omega),cond_true]
 show(bif (decide ((0:Int)≤((kT c.1 id:Nat):Int))&&decide (((kT c.1 id:Nat):Int)≤(List.length c.1:Int))&&decide ((List.length c.1:Int)≤(List.length c.1:Int))) then _ else _)=_
 rw[d2,cond_true,Int.toNat_natCast]
 show FQ N (List.drop (kT c.1 id) (List.take (List.length c.1) c.1)) _=_
 rw[(p4 c.1 (kT c.1 id)).2,rP (by omega) (fun x hx=>h.tmb x (List.mem_of_mem_drop hx)) (by omega),decide_eq_true (by simp only[List.length_append,List.length_cons,List.length_nil];omega),cond_true]
 unfold S94
 refine(wG (out:=jv c id bJ) h (fun _=>O2 h hb hN1) hN hl).trans ?_
 by_cases hr:c.2.2.1.length=0
 ·rw[decide_eq_true hr,decide_eq_false (show ¬(List.length c.2.2.1:Int)>0 by omega)];rfl
 ·rw[decide_eq_false hr,decide_eq_true (show(List.length c.2.2.1:Int)>0 by omega)];rfl
theorem aav {N:Nat} {c z:aP} {id bJ:Int} {k:Int→Option ab} (h:bV c N):tz id bJ c z c N k (0:Int)=k ((kT c.1 id:Nat):Int):=by
 rw[aef h.tl h.tN,tP c.1 0 c.1.length (by omega),Nat.zero_add]
 rfl
theorem ar' {N:Nat} {c:aP} {id bJ:Int} {kf:aP→Bool→Option ab} (h:bV c N) (hb:c.1.length≤1048576) (hN1:c.1.length+1<N) (hN:200<N) (hl:c.2.2.2.2.2.1.length+1<N):
  I30 N c id bJ kf=bif decide (c.2.2.1.length=0) then kf (eG c (jv c id bJ) 1 id) (ef c (jv c id bJ) 1 id) else kf c false:=by
 have hm:=aN
 have hk:=D6 c.1 id
 unfold I30
 rw[o9 h,lB h.tl h.tN]
 by_cases hf:aI c.1 id<0
 rotate_left
 ·rw[decide_eq_true (show aI c.1 id≥0 by omega),cond_true]
  have hd:=ajX (bJ:=bJ) hf
  have hc:eG c (jv c id bJ) 1 id=c:=by unfold eG;rw[hd];rfl
  rw[hd,hc]
  cases decide (c.2.2.1.length=0)<;>rfl
 ·rw[decide_eq_false (show ¬aI c.1 id≥0 by omega),cond_false]
  unfold Om
  by_cases hr:c.2.2.1.length=0
  rotate_left
  ·rw[decide_eq_false hr,decide_eq_true (show(List.length c.2.2.1:Int)>0 by omega)];rfl
  ·rw[decide_eq_true hr,decide_eq_false (show ¬(List.length c.2.2.1:Int)>0 by omega)]
   simp only[cond_false,cond_true]
   rw[aav h]
   show aiy N c.1 ((kT c.1 id:Nat):Int) [Gf id bJ] _=_
   unfold aiy
   rw[awo hk (by omega) (by decide),cond_true,Int.toNat_natCast]
   exact uJ (out:=jv c id bJ) h (O2 h hb hN1) rfl hN hl
def Gh (c:aP) (l:List bD):aP:=(c.1,(l,c.2.2))
theorem HQ {c:aP} {N:Nat} {l:List bD} (h:bV c N) (hl:l.length≤1048700) (hN:l.length<N) (hm:∀ x:bD,x∈l→x.2.2.length≤1048700∧x.2.2.length<N):bV (Gh c l) N:=by
 have h0:=aN
 exact⟨h.tl,h.tm,h.tN,by show l.length≤_;omega,fun x hx=>⟨by have:=(hm x hx).1;omega,(hm x hx).2⟩,hN,h.rl,h.rN,h.sl,h.sN,h.bl,h.bN,h.ml,h.mN,h.n8,h.tb,h.tmb,hl,fun x hx=>(hm x hx).1⟩
def aex (id bJ:Int):bD:=(id,(bJ,[]))
def pc (l:List bD) (id:Int):Nat:=(l.takeWhile fun x=>decide (x.1<id)).length
def je (c:aP) (id bJ:Int):aP:=Gh c (c.2.1.take (pc c.2.1 id)++[aex id bJ]++c.2.1.drop (pc c.2.1 id))
theorem yH (l:List bD) (id:Int):pc l id≤l.length:=vC _ _
theorem IL {c:aP} {N:Nat} {id bJ:Int} (h:bV c N) (hb:c.2.1.length≤1048576) (hN:c.2.1.length+1<N):bV (je c id bJ) N:=by
 have hl:=aew (x:=aex id bJ) (yH c.2.1 id)
 have h8:=h.n8
 refine HQ h (by omega) (by omega) fun x hx=>?_
 rcases Gg hx with hx |rfl
 ·exact⟨h.jmb x hx,(h.jm x hx).2⟩
 ·exact⟨by show(0:Nat)≤_;omega,by show(0:Nat)<_;omega⟩
theorem aaw {c:aP} {id bJ:Int} (h:cz (je c id bJ).2.1=true):dd c.2.1 id<0:=by
 unfold cz at h
 simp only[Bool.and_eq_true] at h
 have hm:=aeu (l:=(je c id bJ).2.1) (z:=cY) (g:=fun x:bD=>x.1) (fun i hi h0=>by
  have h1:=(gg.1 h.2) i hi
  rw[Nat.zero_add] at h1
  unfold o7 at h1
  simp only[Bool.and_eq_true,Bool.or_eq_true,decide_eq_true_eq] at h1
  exact h1.2.2.1.resolve_left (by omega))
 have pj:=aev (xs:=c.2.1) (x:=aex id bJ) (z:=cY) (g:=fun x:bD=>x.1) (yH c.2.1 id) hm
 by_cases hf:dd c.2.1 id<0
 ·exact hf
 ·obtain⟨k,hk,_,h1,_⟩:=ck (p:=fun x:bD=>x.1==id) (l:=c.2.1) hf
  exact absurd (beq_iff_eq.1 h1) (pj k hk)
theorem aey {c:aP} {id bJ:Int} (hf: ¬dd c.2.1 id<0):ef c (je c id bJ) 2 id=false:=by
 cases hd:ef c (je c id bJ) 2 id with
 |false=>rfl
 |true=>
  unfold ef cw at hd
  simp only[Bool.and_eq_true] at hd
  exact absurd (aaw hd.2.2.2.1) hf
theorem Tz {N:Nat} {c z:aP} {id bJ:Int} {k:Int→Option ab} (h:bV c N):oK id bJ c z c N k (0:Int)=k ((pc c.2.1 id:Nat):Int):=by
 rw[aan h.jl h.jN,tP c.2.1 0 c.2.1.length (by omega),Nat.zero_add]
 rfl
theorem ajZ {N:Nat} {c:aP} {id bJ:Int} {kf:aP→Bool→Option ab} (h:bV c N) (hb:c.2.1.length≤1048576) (hN1:c.2.1.length+1<N) (hN:200<N) (hl:c.2.2.2.2.2.1.length+1<N):
  ZN N c id bJ kf=kf (eG c (je c id bJ) 2 id) (ef c (je c id bJ) 2 id):=by
 have hm:=aN
 have hk:=yH c.2.1 id
 unfold ZN
 rw[tM h,Tz h]
 show(bif (decide ((0:Int)≤(0:Int))&&decide ((0:Int)≤((pc c.2.1 id:Nat):Int))&&decide (((pc c.2.1 id:Nat):Int)≤(List.length c.2.1:Int))) then _ else _)=_
 have d1:(decide ((0:Int)≤(0:Int))&&decide ((0:Int)≤((pc c.2.1 id:Nat):Int))&&decide (((pc c.2.1 id:Nat):Int)≤(List.length c.2.1:Int)))=true:=by simp;omega
 have d2:(decide ((0:Int)≤((pc c.2.1 id:Nat):Int))&&decide (((pc c.2.1 id:Nat):Int)≤(List.length c.2.1:Int))&&decide ((List.length c.2.1:Int)≤(List.length c.2.1:Int)))=true:=by simp;omega
 have l1:(c.2.1.take (pc c.2.1 id)).length≤c.2.1.length:=by rw[List.length_take];omega
 have l2:(c.2.1.drop (pc c.2.1 id)).length≤c.2.1.length:=by rw[List.length_drop];omega
 rw[d1,cond_true,Int.toNat_natCast,(p4 c.2.1 (pc c.2.1 id)).1,Kq (by omega) (fun x hx=>h.jmb x (List.mem_of_mem_take hx)) (by omega),decide_eq_true (by simp only[List.length_cons,List.length_nil];omega),cond_true]
 show(bif (decide ((0:Int)≤((pc c.2.1 id:Nat):Int))&&decide (((pc c.2.1 id:Nat):Int)≤(List.length c.2.1:Int))&&decide ((List.length c.2.1:Int)≤(List.length c.2.1:Int))) then _ else _)=_
 rw[d2,cond_true,Int.toNat_natCast]
 show S7 N (List.drop (pc c.2.1 id) (List.take (List.length c.2.1) c.2.1)) _=_
 rw[(p4 c.2.1 (pc c.2.1 id)).2,Kq (by omega) (fun x hx=>h.jmb x (List.mem_of_mem_drop hx)) (by omega),decide_eq_true (by simp only[List.length_append,List.length_cons,List.length_nil];omega),cond_true]
 exact wG (out:=je c id bJ) h (fun _=>IL h hb hN1) hN hl
theorem aax {N:Nat} {c z:aP} {id bJ:Int} {k:Int→Option ab} (h:bV c N):tC id bJ c z c N k (0:Int)=k ((pc c.2.1 id:Nat):Int):=by
 rw[aeg h.jl h.jN,tP c.2.1 0 c.2.1.length (by omega),Nat.zero_add]
 rfl
theorem asa {N:Nat} {c:aP} {id bJ:Int} {kf:aP→Bool→Option ab} (h:bV c N) (hb:c.2.1.length≤1048576) (hN1:c.2.1.length+1<N) (hN:200<N) (hl:c.2.2.2.2.2.1.length+1<N):
  I32 N c id bJ kf=kf (eG c (je c id bJ) 2 id) (ef c (je c id bJ) 2 id):=by
 have hm:=aN
 have hk:=yH c.2.1 id
 unfold I32
 rw[o9 h,WB h.jl h.jN]
 by_cases hf:dd c.2.1 id<0
 rotate_left
 ·rw[decide_eq_true (show dd c.2.1 id≥0 by omega),cond_true]
  have hd:=aey (bJ:=bJ) hf
  have hc:eG c (je c id bJ) 2 id=c:=by unfold eG;rw[hd];rfl
  rw[hd,hc]
 ·rw[decide_eq_false (show ¬dd c.2.1 id≥0 by omega),cond_false,aax h]
  show aiI N c.2.1 ((pc c.2.1 id:Nat):Int) [aex id bJ] _=_
  unfold aiI
  rw[awo hk (by omega) (by decide),cond_true,Int.toNat_natCast]
  exact uJ (out:=je c id bJ) h (IL h hb hN1) rfl hN hl
end Go.Pv.R
namespace Go.Pv.R
set_option linter.unusedVariables false
set_option linter.unusedSimpArgs false
end Go.Pv.R
namespace Go.Pv.R
set_option linter.unusedVariables false
set_option linter.unusedSimpArgs false
end Go.Pv.R
namespace Go.Pv.R
set_option linter.unusedVariables false
set_option linter.unusedSimpArgs false
end Go.Pv.R
namespace Go.Pv.R
set_option linter.unusedVariables false
set_option linter.unusedSimpArgs false
end Go.Pv.R
namespace Go.Pv.R
set_option linter.unusedVariables false
set_option linter.unusedSimpArgs false
theorem Kt {N:Nat} {a b:Int} {kf:Int→Option ab}:Zy N a b kf=kf (bif decide (a<b) then -1 else bif decide (a>b) then 1 else 0):=by
 unfold Zy aiM
 simp only[bne_self_eq_false,cond_false]
 cases decide (a<b)<;>cases decide (a>b)<;>rfl
end Go.Pv.R
namespace Go.Pv.R
set_option linter.unusedVariables false
set_option linter.unusedSimpArgs false
end Go.Pv.R
namespace Go.Pv.R
set_option linter.unusedVariables false
set_option linter.unusedSimpArgs false
end Go.Pv.R
namespace Go.Pv.R
set_option linter.unusedVariables false
set_option linter.unusedSimpArgs false
end Go.Pv.R
namespace Go.Pv.R
set_option linter.unusedVariables false
set_option linter.unusedSimpArgs false
def dJ (a b:aH):Bool:=bif a.2.2.1 != b.2.2.1 then decide (a.2.2.1>b.2.2.1) else(bif decide (a.2.2.2.1>b.2.2.2.1) then true else(bif a.2.2.2.1==b.2.2.2.1 then decide (a.1<b.1) else false))
theorem WL {N:Nat} {a b:aH} {kf:Bool→Option ab}:adS N a b kf=kf (dJ a b):=by
 unfold adS dJ
 cases (a.2.2.1 != b.2.2.1) with
 |true=>rfl
 |false=>
  simp only[cond_false]
  cases decide (a.2.2.2.1>b.2.2.2.1) with
  |true=>rfl
  |false=>
   simp only[cond_false]
   cases (a.2.2.2.1==b.2.2.2.1)<;>rfl
theorem nM {a b:aH}:dJ a b=true↔a.2.2.1>b.2.2.1∨(a.2.2.1=b.2.2.1∧(a.2.2.2.1>b.2.2.2.1∨(a.2.2.2.1=b.2.2.2.1∧a.1<b.1))):=by
 unfold dJ
 by_cases h1:a.2.2.1=b.2.2.1
 ·have e1:(a.2.2.1 != b.2.2.1)=false:=by simp[h1]
  rw[e1,cond_false]
  by_cases h2:a.2.2.2.1>b.2.2.2.1
  ·rw[decide_eq_true h2];simp[h1,h2]
  ·rw[decide_eq_false h2,cond_false]
   by_cases h3:a.2.2.2.1=b.2.2.2.1
   ·have e3:(a.2.2.2.1==b.2.2.2.1)=true:=by simp[h3]
    rw[e3,cond_true];simp[h1,h3]
   ·have e3:(a.2.2.2.1==b.2.2.2.1)=false:=by simp[h3]
    rw[e3,cond_false];simp[h1,h2,h3]
 ·have e1:(a.2.2.1 != b.2.2.1)=true:=by simp[h1]
  rw[e1,cond_true]
  simp[h1]
def TA (a b:Int):Int:=bif decide (a<b) then -1 else bif decide (a>b) then 1 else 0
theorem aj0 (a b:Int):TA a b=if a<b then -1 else if a>b then 1 else 0:=by
 unfold TA
 by_cases h1:a<b
 ·rw[decide_eq_true h1,if_pos h1];rfl
 ·rw[decide_eq_false h1,if_neg h1]
  by_cases h2:a>b
  ·rw[decide_eq_true h2,if_pos h2];rfl
  ·rw[decide_eq_false h2,if_neg h2];rfl
theorem aj1 {N:Nat} {a b c:Int} {kf:Int→Option ab} (hN:3<N):aiN N [a,b,c] kf=kf (if a≠0 then a else if b≠0 then b else c):=by
 unfold aiN
 rw[ZX (by rw[aN];simp) (by simpa using hN)]
 simp only[lX]
 by_cases h1:a=0
 ·subst h1
  have e1:(((0:Int) != (0:Int)))=false:=by simp
  rw[e1,cond_false]
  by_cases h2:b=0
  ·subst h2
   rw[e1,cond_false]
   by_cases h3:c=0
   ·subst h3;rw[e1,cond_false];simp
   ·have e3:(c != 0)=true:=by simp[h3]
    rw[e3,cond_true];simp
  ·have e2:(b != 0)=true:=by simp[h2]
   rw[e2,cond_true];simp[h2]
 ·have e2:(a != 0)=true:=by simp[h1]
  rw[e2,cond_true];simp[h1]
def asb (a b:aH):Int:=if TA b.2.2.1 a.2.2.1≠0 then TA b.2.2.1 a.2.2.1 else if TA b.2.2.2.1 a.2.2.2.1≠0 then TA b.2.2.2.1 a.2.2.2.1 else TA a.1 b.1
theorem aj2 {N:Nat} {a b:aH} {kf:Int→Option ab} (hN:3<N):aiO N a b kf=kf (asb a b):=by
 unfold aiO
 rw[Kt,Kt,Kt,aj1 hN]
 rfl
theorem O4 (a b:aH):decide (asb a b<0)=dJ a b:=by
 rw[Bool.eq_iff_iff,nM,decide_eq_true_eq]
 unfold asb
 simp only[aj0]
 rcases Int.lt_trichotomy a.2.2.1 b.2.2.1 with h1 |h1 |h1
 ·have: ¬b.2.2.1<a.2.2.1:=by omega
  simp only[this,if_false,if_pos (show b.2.2.1>a.2.2.1 from h1)]
  simp;omega
 ·simp only[h1,Int.lt_irrefl,if_false,gt_iff_lt,ne_eq,not_true_eq_false]
  rcases Int.lt_trichotomy a.2.2.2.1 b.2.2.2.1 with h2 |h2 |h2
  ·have: ¬b.2.2.2.1<a.2.2.2.1:=by omega
   simp only[this,if_false,if_pos h2]
   simp;omega
  ·simp only[h2,Int.lt_irrefl,if_false,ne_eq,not_true_eq_false]
   by_cases h3:a.1<b.1
   ·simp[h3]
   ·simp only[h3,if_false]
    by_cases h4:b.1<a.1
    ·simp[h4]
    ·simp[h4]
  ·simp only[if_pos h2]
   simp[h2]
 ·simp only[if_pos (show b.2.2.1<a.2.2.1 from h1)]
  simp[h1]
def nN (x:aH) (s:List aH):Nat→Nat
 |0=>0
 |k+1=>bif dJ x (s.getD k aC) then nN x s k else k+1
theorem D7 (x:aH) (s:List aH):∀ k,nN x s k≤k
 |0=>Nat.le_refl _
 |k+1=>by
  unfold nN
  cases dJ x (s.getD k aC) with
  |true=>exact Nat.le_succ_of_le (D7 x s k)
  |false=>exact Nat.le_refl _
def tQ (s:List aH) (x:aH):List aH:=s.take (nN x s s.length)++[x]++s.drop (nN x s s.length)
theorem yI (s:List aH) (x:aH):(tQ s x).length=s.length+1:=by
 have:=D7 x s s.length
 simp[tQ];omega
def nO (l:List aH):List aH:=l.foldl tQ []
theorem O5:∀ (l s:List aH),(l.foldl tQ s).length=s.length+l.length
 |[],s=>by simp
 |x::l,s=>by simp only[List.foldl_cons,O5 l,yI,List.length_cons];omega
theorem uK (l:List aH):(nO l).length=l.length:=by simp[nO,O5]
def nP (l:List aH):List Int:=bif aK l then(nO l).map (fun x:aH=>x.1) else []
theorem Gi {N:Nat} {l s:List aH} {i:Nat} (hi:i<l.length) (hl:l.length≤1048700) (hs:s.length≤1048700) {kk:Int→Option ab}:∀ (k n:Nat),k≤s.length→k<n→rf N l s (i:Int) n kk (k:Int)=kk ((nN l[i] s k:Nat):Int)
 |0,n+1,_,_=>by
  simp only[rf]
  rfl
 |k+1,n+1,hk,hn=>by
  have hm:=aN
  have ew:IntKind.wrap .i64 (((k+1:Nat):Int) - 1)=((k:Nat):Int):=by
   have:=pV (i:=k+1) (m:=s.length+1) (by omega) (by omega) (by omega)
   simpa using this
  simp only[rf]
  rw[decide_eq_true (show((k+1:Nat):Int)>0 by omega),cond_true,aG hi,cond_true,ew,aG (show k<s.length by omega),cond_true,WL,Int.toNat_natCast,Int.toNat_natCast,ax l i hi]
  unfold nN
  cases dJ l[i] (s.getD k aC) with
  |true=>simp only[cond_true];exact Gi hi hl hs k n (by omega) (by omega)
  |false=>rfl
theorem Gj {α σ:Type} {body:Nat→α→σ→(σ→Option ab)→Option ab} {dw:σ→Option ab} {g:σ→α→σ} {Inv:Nat→σ→Prop} {l:List α}
  (hb:∀ (i:Nat) (s:σ) (next:σ→Option ab) (h:i<l.length),Inv i s→body i l[i] s next=next (g s l[i])∧Inv (i+1) (g s l[i])):∀ (r:List α) (i:Nat) (s:σ),l.drop i=r→Inv i s→c6 body dw r i s=dw (r.foldl g s)
 |[],i,s,_,_=>rfl
 |x::r,i,s,hd,hs=>by
  have cZ:i<l.length:=by have:=congrArg List.length hd;simp at this;omega
  rw[List.drop_eq_getElem_cons cZ] at hd
  injection hd with h1 h2
  subst h1
  obtain⟨e1,e2⟩:=hb i s (fun s'=>c6 body dw r (i+1) s') cZ hs
  simp only[c6,List.foldl_cons]
  rw[e1]
  exact Gj hb r (i+1) _ h2 e2
theorem O6 {l:List aH} {kf:List Int→Option ab} (hl:l.length≤1048700):c6 (fun(i:Nat) (x:QT) (s:(List Int)) (next:(List Int)→Option ab)=>
    bif (decide ((List.length s+List.length [x.1])*1≤4398046511104)) then
     next (s++[x.1])
    else none) (fun(s:(List Int))=>kf s) l 0 []=kf (l.map fun x:aH=>x.1):=by
 rw[Gj (l:=l) (g:=fun s (x:aH)=>s++[x.1]) (Inv:=fun i s=>s.length=i) (fun i s next h hs=>⟨by rw[decide_eq_true (by simp only[List.length_cons,List.length_nil];omega),cond_true],by simp[hs]⟩) l 0 [] rfl rfl]
 congr 1
 have:∀ (r:List aH) (s:List Int),r.foldl (fun s (x:aH)=>s++[x.1]) s=s++r.map fun x:aH=>x.1:=by
  intro r
  induction r with
  |nil=>intro s;simp
  |cons x r ih=>intro s;simp[ih]
 simpa using this l []
theorem aj3 {N:Nat} {l:List aH} {kf:List Int→Option ab} (hl:l.length≤maxLen) (hm:∀ x∈l,x.met.length≤maxLen∧x.met.length<N) (hN:l.length+1<N):aiW N l kf=kf (nP l):=by
 have hx:=aN
 unfold aiW nP
 rw[Z8 hl (by omega)]
 have ha:∀ kf,vf N l kf=kf (aK l):=fun kf=>lO hl hm (by omega)
 cases eJ:aK l with
 |false=>
  have key:∀ (l2:List aH) (body:Nat→aH→List aH→(List aH→Option ab)→Option ab) (dw:List aH→Option ab),(∀ i x s next,body i x s next=dw s)→c6 body dw l2 0 []=dw []:=by
   intro l2 body dw h
   cases l2 with
   |nil=>rfl
   |cons x r=>simp only[c6];exact h _ _ _ _
  rw[key _ _ _ (fun i x s next=>by rw[ha,eJ];rfl)]
  rw[F6 (by simp) (by simp;omega)]
  rfl
 |true=>
  have h10:l.length≤10:=by
   unfold aK at eJ
   simp only[Bool.and_eq_true,decide_eq_true_eq] at eJ
   exact eJ.1
  rw[Gj (l:=l) (g:=tQ) (Inv:=fun i s=>s.length=i∧i≤l.length) (fun i s next h hs=>⟨by
   obtain⟨h1,h2⟩:=hs
   have hp:=D7 l[i] s s.length
   rw[ha,eJ]
   simp only[cond_true]
   rw[Gi h (by omega) (by omega) s.length N (Nat.le_refl _) (by omega)]
   have d1:(decide ((0:Int)≤(0:Int))&&decide ((0:Int)≤((nN l[i] s s.length:Nat):Int))&&decide (((nN l[i] s s.length:Nat):Int)≤(List.length s:Int)))=true:=by simp;omega
   have d2:(decide ((0:Int)≤((nN l[i] s s.length:Nat):Int))&&decide (((nN l[i] s s.length:Nat):Int)≤(List.length s:Int))&&decide ((List.length s:Int)≤(List.length s:Int)))=true:=by simp;omega
   rw[d1,cond_true,d2,cond_true,Int.toNat_natCast,Int.toNat_natCast,List.drop_zero,List.take_length,List.nil_append]
   have l1:(s.take (nN l[i] s s.length)).length≤s.length:=by rw[List.length_take];omega
   have l2:(s.drop (nN l[i] s s.length)).length≤s.length:=by rw[List.length_drop];omega
   rw[decide_eq_true (by simp only[List.length_nil];omega),cond_true,decide_eq_true (by simp only[List.length_cons,List.length_nil];omega),cond_true,decide_eq_true (by simp only[List.length_append,List.length_cons,List.length_nil];omega),cond_true]
   rfl,by rw[yI];omega,h⟩) l 0 [] rfl ⟨rfl,by omega⟩]
  have hlen:=uK l
  show l5 (nO l) N kf [] 0=_
  rw[F6 (by omega) (by omega)]
  exact O6 (by omega)
theorem aj4 {α:Type} (P Q:List α) (y x:α) (z:α):List.set (List.set (P++(y::x::Q)) (P.length+1) y) P.length x=P++(x::y::Q):=by
 rw[List.set_append_right _ _ (by omega),List.set_append_right _ _ (by omega)]
 simp
def sA (s:List aH) (x:aH) (rest:List aH) (k:Nat):List aH:=s.take k++(x::(s.drop k++rest))
theorem aez {s rest:List aH} {x:aH} {k:Nat} (hk:k≤s.length):(sA s x rest k).length=s.length+1+rest.length:=by simp[sA];omega
theorem Gk {N:Nat} {s rest:List aH} {x:aH} {b i:Int} {kk:List aH→Option ab} (hN:3<N) (hl:s.length+rest.length≤1048700):∀ (k n:Nat),k≤s.length→k<n→
  uA N (0:Int) b i n kk (sA s x rest k) (k:Int)=kk (sA s x rest (nN x s k))
 |0,n+1,_,_=>by
  simp only[uA]
  rfl
 |k+1,n+1,hk,hn=>by
  have hm:=aN
  have ew:IntKind.wrap .i64 (((k+1:Nat):Int) - 1)=((k:Nat):Int):=by
   have:=pV (i:=k+1) (m:=s.length+1) (by omega) (by omega) (by omega)
   simpa using this
  have hlen:=aez (x:=x) (rest:=rest) hk
  have e1:s.take (k+1)=s.take k++[s[k]]:=by rw[List.take_succ_eq_append_getElem (by omega)]
  have e2:s.drop k=s[k]::s.drop (k+1):=by rw[List.drop_eq_getElem_cons (by omega)]
  have hP:(s.take k).length=k:=by rw[List.length_take];omega
  have em:sA s x rest (k+1)=s.take k++(s[k]::x::(s.drop (k+1)++rest)):=by unfold sA;rw[e1,List.append_assoc];rfl
  have en:sA s x rest k=s.take k++(x::s[k]::(s.drop (k+1)++rest)):=by unfold sA;rw[e2];rfl
  have g1:(sA s x rest (k+1)).getD (k+1) aC=x:=by rw[em,List.getD_eq_getElem?_getD,List.getElem?_append_right (by omega),hP];simp
  have g0:(sA s x rest (k+1)).getD k aC=s[k]:=by rw[em,List.getD_eq_getElem?_getD,List.getElem?_append_right (by omega),hP];simp
  simp only[uA]
  rw[decide_eq_true (show((k+1:Nat):Int)>0 by omega),cond_true,aG (show k+1<(sA s x rest (k+1)).length by omega),cond_true,ew,aG (show k<(sA s x rest (k+1)).length by omega),cond_true,Int.toNat_natCast,Int.toNat_natCast,g1,g0,aj2 hN,O4]
  have eb:dJ x (s.getD k aC)=dJ x s[k]:=by rw[ax s k (by omega)]
  unfold nN
  rw[eb]
  cases dJ x s[k] with
  |true=>
   simp only[cond_true,share]
   rw[aG (show k<_ by rw[List.length_set];omega),cond_true]
   have es:List.set (List.set (sA s x rest (k+1)) (k+1) s[k]) k x=sA s x rest k:=by
    rw[em,en]
    have:=aj4 (s.take k) (s.drop (k+1)++rest) s[k] x x
    rw[hP] at this
    exact this
   rw[es]
   exact Gk hN hl k n (by omega) (by omega)
  |false=>rfl
theorem Gm {N:Nat} {l:List aH} {kk:List aH→Option ab} (hN:3<N) (hl:l.length≤1048700) (hlN:l.length<N):∀ (r s:List aH) (n:Nat),s.length+r.length=l.length→r.length<n→
  qX N (0:Int) (l.length:Int) n kk (s++r) (s.length:Int)=kk (r.foldl tQ s)
 |[],s,n+1,hs,_=>by
  simp only[qX]
  rw[decide_eq_false (show ¬(s.length:Int)<(l.length:Int) by simp at hs;omega)]
  simp
 |x::r,s,n+1,hs,hn=>by
  have hm:=aN
  simp only[List.length_cons] at hs hn
  simp only[qX]
  rw[decide_eq_true (show(s.length:Int)<(l.length:Int) by omega),cond_true]
  have e0:s++x::r=sA s x r s.length:=by simp[sA]
  rw[e0,Gk hN (by omega) s.length N (Nat.le_refl _) (by omega)]
  have e1:sA s x r (nN x s s.length)=tQ s x++r:=by simp[sA,tQ]
  have e2:IntKind.wrap .i64 ((s.length:Int)+1)=((tQ s x).length:Int):=by
   rw[yI]
   exact hJ (i:=s.length) (m:=l.length) (by omega) (by omega)
  rw[e1,e2,Gm hN hl hlN r (tQ s x) n (by rw[yI];omega) (by omega)]
  rfl
theorem O7 {N:Nat} {n:Nat} {kf:Int→Option ab} (h:n<256):∃ r,aiL N (n:Int) kf=kf r:=by
 unfold aiL arw
 rw[decide_eq_false (by omega),cond_false]
 unfold JR
 rw[decide_eq_false (by omega),cond_false]
 unfold JQ
 rw[decide_eq_false (by omega),cond_false]
 unfold JP
 have e:IntKind.wrap .u8 (n:Int)=(n:Int):=by simp[IntKind.wrap,IntKind.bits,IntKind.signed];omega
 rw[e,aG (m:=ByteArray.size _) (by
  have:ByteArray.size bq=256:=by decide+kernel
  rw[this];exact h),cond_true]
 exact⟨_,rfl⟩
end Go.Pv.R
namespace Go.Pv.R
set_option linter.unusedVariables false
set_option linter.unusedSimpArgs false
theorem wH {N:Nat} {l:List aH} {kf:List aH→Option ab} (hl:l.length≤12) (hN:20<N):aiQ N l kf=kf (nO l):=by
 have hm:=aN
 unfold aiQ
 have ew:IntKind.wrap .u64 (List.length l:Int)=(l.length:Int):=by simp[IntKind.wrap,IntKind.bits,IntKind.signed];omega
 rw[ew]
 obtain⟨r,hr⟩:=O7 (N:=N) (n:=l.length) (kf:=fun(da:Int)=>aiP N l (0:Int) (List.length l:Int) da kf) (by omega)
 rw[hr]
 unfold aiP
 obtain⟨n,rfl⟩:∃ n,N=n+1:=⟨N - 1,by omega⟩
 simp only[JT]
 rw[wrap64 (n:=(List.length l:Int) - 0) (by omega) (by omega),decide_eq_true (by omega),cond_true]
 unfold ary
 cases l with
 |nil=>
  have e:IntKind.wrap .i64 ((0:Int)+1)=1:=by decide
  rw[e]
  simp only[qX]
  rfl
 |cons x r=>
  have e:IntKind.wrap .i64 ((0:Int)+1)=(([x]:List aH).length:Int):=by
   show IntKind.wrap .i64 ((0:Int)+1)=((1:Nat):Int)
   decide
  rw[e]
  have:=Gm (N:=n+1) (l:=x::r) (kk:=kf) (by omega) (by omega) (by omega) r [x] (n+1) (by simp;omega) (by simp at hl;omega)
  simp only[List.singleton_append] at this
  rw[this]
  rfl
theorem aj5 {N:Nat} {l:List aH} {kf:List aH→Option ab} (hl:l.length≤1048576):aiK N l kf=kf l:=pY (decide_eq_true (by simp only[List.length_nil];omega))
theorem WM {N:Nat} {l:List aH} {kf:List Int→Option ab} (hl:l.length≤maxLen) (hm:∀ x∈l,x.met.length≤maxLen∧x.met.length<N) (hN:l.length<N) (C7:20<N):adB N l kf=kf (nP l):=by
 have hx:=aN
 unfold adB nP
 rw[mU hl hm hN]
 cases eJ:aK l with
 |false=>rfl
 |true=>
  have h10:l.length≤10:=by
   unfold aK at eJ
   simp only[Bool.and_eq_true,decide_eq_true_eq] at eJ
   exact eJ.1
  have hlen:=uK l
  simp only[Bool.not_true,cond_false,cond_true]
  rw[aj5 (by omega),wH (by omega) C7,ZY (by omega) (by omega)]
  exact O6 (by omega)
def RN (a b:aH):Prop:=dJ b a=false
theorem WN {a b:aH}:RN a b↔ ¬(b.2.2.1>a.2.2.1∨(b.2.2.1=a.2.2.1∧(b.2.2.2.1>a.2.2.2.1∨(b.2.2.2.1=a.2.2.2.1∧b.1<a.1)))):=by
 unfold RN
 rw[←nM,Bool.not_eq_true]
theorem aay {a b c:aH} (h1:RN a b) (h2:RN b c):RN a c:=by
 rw[WN] at*
 omega
theorem TB {a b:aH} (h:dJ a b=true):RN a b:=by
 rw[WN]
 rw[nM] at h
 omega
theorem TC {a b:aH} (h:a.1≠b.1) (hb:dJ a b=false):dJ b a=true:=by
 rw[nM]
 rw[←Bool.not_eq_true,nM] at hb
 omega
theorem WO (x:aH) (s:List aH):∀ k i,nN x s k≤i→i<k→dJ x (s.getD i aC)=true
 |0,i,_,h=>by omega
 |k+1,i,h1,h2=>by
  unfold nN at h1
  cases hb:dJ x (s.getD k aC) with
  |true=>
   rw[hb,cond_true] at h1
   rcases Nat.lt_or_eq_of_le (Nat.le_of_lt_succ h2) with h3 |rfl
   ·exact WO x s k i h1 h3
   ·exact hb
  |false=>
   rw[hb,cond_false] at h1
   omega
theorem WQ (x:aH) (s:List aH):∀ k,0<nN x s k→RN (s.getD (nN x s k - 1) aC) x
 |0,h=>by simp[nN] at h
 |k+1,h=>by
  unfold nN at h ⊢
  cases hb:dJ x (s.getD k aC) with
  |true=>rw[hb,cond_true] at h;exact WQ x s k h
  |false=>exact hb
theorem aaz (s:List aH) (x:aH):(tQ s x).Perm (x::s):=by
 unfold tQ
 refine(List.perm_append_comm.append_right _).trans ?_
 rw[List.append_assoc,List.take_append_drop]
 exact List.Perm.refl _
theorem IM:∀ (l s:List aH),(l.foldl tQ s).Perm (l++s)
 |[],s=>List.Perm.refl _
 |x::l,s=>by
  refine(IM l (tQ s x)).trans ?_
  refine((aaz s x).append_left l).trans ?_
  exact List.perm_middle
theorem IN {l:List aH} {x:aH}:x∈nO l↔x∈l:=by
 have:=(IM l []).mem_iff (a:=x)
 rw[List.append_nil] at this
 exact this
theorem O8 {s:List aH} {x:aH} (h:s.Pairwise RN):(tQ s x).Pairwise RN:=by
 have hp:=D7 x s s.length
 have YW:=WQ x s s.length
 have EM:=WO x s s.length
 unfold tQ
 generalize nN x s s.length=p at*
 have h0:=h
 rw[←List.take_append_drop p s,List.pairwise_append] at h
 obtain⟨h1,h2,h3⟩:=h
 rw[List.append_assoc,List.pairwise_append]
 have hb:∀ y∈s.drop p,RN x y:=fun y hy=>by
  obtain⟨j,hj,rfl⟩:=List.mem_iff_getElem.1 hy
  rw[List.length_drop] at hj
  have:=EM (p+j) (by omega) (by omega)
  rw[ax _ _ (by omega)] at this
  rw[List.getElem_drop]
  exact TB this
 have ha:∀ y∈s.take p,RN y x:=fun y hy=>by
  obtain⟨j,hj,rfl⟩:=List.mem_iff_getElem.1 hy
  rw[List.length_take] at hj
  have:=YW (by omega)
  rw[ax _ _ (by omega)] at this
  rw[List.getElem_take]
  by_cases hjp:j=p - 1
  ·subst hjp;exact this
  ·exact aay (List.pairwise_iff_getElem.1 h0 j (p - 1) (by omega) (by omega) (by omega)) this
 refine⟨h1,?_,?_⟩
 ·rw[List.singleton_append,List.pairwise_cons]
  exact⟨hb,h2⟩
 ·intro a hA b hB
  rw[List.singleton_append,List.mem_cons] at hB
  rcases hB with rfl |hB
  ·exact ha a hA
  ·exact h3 a hA b hB
theorem Ku (l:List aH):(nO l).Pairwise RN:=by
 have:∀ (l s:List aH),s.Pairwise RN→(l.foldl tQ s).Pairwise RN:=by
  intro l
  induction l with
  |nil=>exact fun s h=>h
  |cons x l ih=>exact fun s h=>ih _ (O8 h)
 exact this l [] List.Pairwise.nil
def ek (t:List aH) (id:Int):aH:=t.getD (aI t id).toNat aC
def O9 (t:List aH) (a b:Int):cS:=bif aK t&&(decide (aI t a≥0)&&(decide (aI t b≥0)&&(aI t a != aI t b))) then
  (bif decide ((ek t b).2.2.2.2.1<(ek t a).2.2.2.2.1) then(b,a) else bif (ek t b).2.2.2.2.1==(ek t a).2.2.2.2.1 then(bif dJ (ek t b) (ek t a) then(b,a) else(a,b)) else(a,b)) else(0,0)
theorem aj6 {N:Nat} {t:List aH} {a b:Int} {kf:cS→Option ab} (hl:t.length≤maxLen) (hm:∀ x∈t,x.met.length≤maxLen∧x.met.length<N) (hN:t.length<N):aiY N t a b kf=kf (O9 t a b):=by
 unfold aiY O9
 rw[kQ hl hN,kQ hl hN,lO hl hm hN]
 cases aK t with
 |false=>rfl
 |true=>
  by_cases ha:aI t a≥0
  rotate_left
  ·rw[decide_eq_true (show aI t a<0 by omega),decide_eq_false ha];rfl
  by_cases hb:aI t b≥0
  rotate_left
  ·rw[decide_eq_false (show ¬aI t a<0 by omega),decide_eq_true ha,decide_eq_true (show aI t b<0 by omega),decide_eq_false hb];rfl
  rw[decide_eq_true ha,decide_eq_true hb,decide_eq_false (show ¬aI t a<0 by omega),decide_eq_false (show ¬aI t b<0 by omega),(fG ha).1,(fG hb).1]
  simp only[cond_true,cond_false,Bool.not_true,Bool.true_and,WL,bne]
  unfold ek
  cases (aI t a==aI t b)
  ·simp only[cond_false,Bool.not_false,cond_true]
   cases decide ((t.getD (aI t b).toNat aC).2.2.2.2.1<(t.getD (aI t a).toNat aC).2.2.2.2.1)
   ·simp only[cond_false]
    cases ((t.getD (aI t b).toNat aC).2.2.2.2.1==(t.getD (aI t a).toNat aC).2.2.2.2.1)
    ·rfl
    ·simp only[cond_true]
     cases dJ (t.getD (aI t b).toNat aC) (t.getD (aI t a).toNat aC)<;>rfl
   ·rfl
  ·rfl
theorem WR {N:Nat} {l:List Int} {n:Int} {kf:Int→Option ab} (hl:l.length≤maxLen) (hN:l.length<N):SQ N l n kf=kf (gu (fun x:Int=>n==x) l):=by
 unfold SQ
 rw[IG hl hN,kP (p:=fun x:Int=>n==x) (kf:=fun i=>kf (i:Int)) (fun i x next=>rfl)]
 unfold gu
 cases jk (fun x:Int=>n==x) l 0<;>rfl
theorem eo {t:List aH} {a:Int} (ha:aI t a≥0):ek t a∈t∧(ek t a).1=a:=by
 obtain⟨k,hk,e,h1,_⟩:=ck (p:=fun x:aH=>x.1==a) (l:=t) (by unfold aI at ha;omega)
 have e:aI t a=(k:Int):=e
 unfold ek
 rw[e,Int.toNat_natCast,ax _ _ hk]
 exact⟨List.getElem_mem hk,by simpa using h1⟩
theorem aaA {t:List aH} (ht:allI (jY t) t 0=true) {x:aH} (hx:x∈t) {a:Int} (e:x.1=a):ek t a=x:=by
 obtain⟨i,hi,rfl⟩:=List.mem_iff_getElem.1 hx
 unfold ek
 rw[(F' ht hi).2 e.symm,Int.toNat_natCast,ax _ _ hi]
theorem WS {t:List aH} (ht:allI (jY t) t 0=true) {a:Int} (ha:aI t a≥0):∃ k:Nat,∃ hk:k<(nO t).length,gu (fun x:Int=>a==x) ((nO t).map fun x:aH=>x.1)=(k:Int)∧(nO t)[k]=ek t a:=by
 obtain⟨h1,h2⟩:=eo ha
 have mu:a∈(nO t).map fun x:aH=>x.1:=List.mem_map.2 ⟨ek t a,IN.2 h1,h2⟩
 by_cases hn:gu (fun x:Int=>a==x) ((nO t).map fun x:aH=>x.1)<0
 ·obtain⟨j,hj,e⟩:=List.mem_iff_getElem.1 mu
  have:=(uF hn).2 j hj
  rw[e] at this
  simp at this
 ·obtain⟨k,hk,e,h3,_⟩:=ck hn
  rw[List.length_map] at hk
  refine⟨k,hk,e,?_⟩
  rw[List.getElem_map,beq_iff_eq] at h3
  exact(aaA ht (IN.1 (List.getElem_mem hk)) h3.symm).symm
theorem aj7 {t:List aH} (ht:allI (jY t) t 0=true) {a b:Int} (ha:aI t a≥0) (hb:aI t b≥0) (u7:a≠b):decide (gu (fun x:Int=>a==x) ((nO t).map fun x:aH=>x.1)<gu (fun x:Int=>b==x) ((nO t).map fun x:aH=>x.1))=!dJ (ek t b) (ek t a):=by
 obtain⟨i,hi,e1,h1⟩:=WS ht ha
 obtain⟨j,hj,e2,h2⟩:=WS ht hb
 have hs:=List.pairwise_iff_getElem.1 (Ku t)
 rw[e1,e2]
 rcases Nat.lt_trichotomy i j with h |h |h
 ·have:=hs i j hi hj h
  rw[h1,h2] at this
  unfold RN at this
  rw[this,decide_eq_true (by omega)];rfl
 ·subst h
  have:ek t a=ek t b:=by rw[←h1,←h2]
  exact absurd (by rw[←(eo ha).2,←(eo hb).2,this]) u7
 ·have:=hs j i hj hi h
  rw[h1,h2] at this
  unfold RN at this
  have h3:=TC (a:=ek t a) (b:=ek t b) (by rw[(eo ha).2,(eo hb).2];exact u7) this
  rw[h3,decide_eq_false (by omega)];rfl
theorem aj8 {N:Nat} {t:List aH} {a b:Int} {kf:cS→Option ab} (hl:t.length≤maxLen) (hm:∀ x∈t,x.met.length≤maxLen∧x.met.length<N) (hN:t.length<N) (C7:20<N):aiT N t a b kf=kf (O9 t a b):=by
 have hx:=aN
 unfold aiT O9
 rw[lB hl hN,lB hl hN,mU hl hm hN]
 cases eJ:aK t with
 |false=>rfl
 |true=>
  have BF:=eJ
  unfold aK at BF
  simp only[Bool.and_eq_true,decide_eq_true_eq] at BF
  obtain⟨h10,ht,_⟩:=BF
  by_cases ha:aI t a≥0
  rotate_left
  ·rw[decide_eq_true (show aI t a<0 by omega),decide_eq_false ha];rfl
  by_cases hb:aI t b≥0
  rotate_left
  ·rw[decide_eq_false (show ¬aI t a<0 by omega),decide_eq_true ha,decide_eq_true (show aI t b<0 by omega),decide_eq_false hb];rfl
  rw[decide_eq_true ha,decide_eq_true hb,decide_eq_false (show ¬aI t a<0 by omega),decide_eq_false (show ¬aI t b<0 by omega),(fG ha).1,(fG hb).1,WM hl hm hN C7]
  have hlen:=uK t
  have cD:nP t=(nO t).map fun x:aH=>x.1:=by unfold nP;rw[eJ];rfl
  have Hv:(nP t).length=t.length:=by rw[cD,List.length_map,hlen]
  rw[WR (by omega) (by omega)]
  simp only[WR (N:=N) (l:=nP t) (by omega) (by omega)]
  by_cases u7:a=b
  ·subst u7;simp
  ·have pj:aI t a≠aI t b:=fun e=>u7 (by rw[←(eo ha).2,←(eo hb).2];unfold ek;rw[e])
   have e1:(aI t a==aI t b)=false:=by simpa using pj
   simp only[cond_true,cond_false,Bool.not_true,Bool.true_and,bne,e1,Bool.not_false]
   rw[cD,aj7 ht ha hb u7]
   show(bif decide ((ek t a).2.2.2.2.1<(ek t b).2.2.2.2.1) then kf (a,b) else bif (ek t a).2.2.2.2.1==(ek t b).2.2.2.2.1 then(bif !dJ (ek t b) (ek t a) then kf (a,b) else kf (b,a)) else kf (b,a))=_
   rcases Int.lt_trichotomy (ek t a).2.2.2.2.1 (ek t b).2.2.2.2.1 with h |h |h
   ·rw[decide_eq_true h,decide_eq_false (by omega),cond_true,cond_false]
    have:((ek t b).2.2.2.2.1==(ek t a).2.2.2.2.1)=false:=by simp;omega
    rw[this];rfl
   ·rw[h,decide_eq_false (Int.lt_irrefl _),cond_false,beq_self_eq_true,cond_true,cond_true,cond_false]
    cases dJ (ek t b) (ek t a)<;>rfl
   ·rw[decide_eq_false (by omega),decide_eq_true h,cond_true,cond_false]
    have:((ek t a).2.2.2.2.1==(ek t b).2.2.2.2.1)=false:=by simp;omega
    rw[this];rfl
theorem aj9 {N:Nat} {a b:List Int} {kf:List Int→Option ab} (ha:a.length≤1048700) (hb:b.length≤1048700) (hN:2<N):aiS N [a,b] kf=kf (a++b):=by
 have hm:=aN
 unfold aiS
 rw[ZZ (by simp;omega) (by simpa using hN)]
 simp only[c6]
 rw[wrap64 (n:=(0:Int)+(List.length a:Int)) (by omega) (by omega),decide_eq_false (by omega),cond_false,wrap64 (n:=(0:Int)+(List.length a:Int)+(List.length b:Int)) (by omega) (by omega),decide_eq_false (by omega),cond_false]
 unfold arz
 have e:(List.isEmpty ([]:List Int)&&(decide ((0:Int)≤0+(List.length a:Int)+(List.length b:Int))&&decide (0+(List.length a:Int)+(List.length b:Int)≤(549755813888:Int))))=true:=by
  rw[decide_eq_true (by omega),decide_eq_true (by omega)];rfl
 rw[e,cond_true]
 show l4 [a,b] (List.length [a,b]:Int) N kf [] 0=_
 rw[Tr (by simp;omega) (by simpa using hN)]
 simp only[c6]
 rw[decide_eq_true (by simp;omega),cond_true,decide_eq_true (by simp;omega),cond_true]
 rfl
end Go.Pv.R
namespace Go.Pv.R
set_option linter.unusedVariables false
set_option linter.unusedSimpArgs false
def oP (L:List Int) (i:Nat):List Int:=List.drop 1 (List.take i L)++List.drop (i+1) L
theorem p5 {L:List Int} {i:Nat} (h1:1≤i) (h:i<L.length):(oP L i).length=L.length - 2:=by simp[oP];omega
def so (t:List aH) (f:List Int→Option (List cS)) (L:List Int):Nat→Nat→Option (List cS)
 |0,_=>none
 |k+1,i=>bif cT t (L.getD 0 0) (L.getD i 0) then
   (match f (oP L i) with
    |some r=>some (O9 t (L.getD 0 0) (L.getD i 0)::r)
    |none=>so t f L k (i+1))
  else so t f L k (i+1)
def p6 (t:List aH):Nat→List Int→Option (List cS)
 |0,_=>none
 |n+1,L=>bif decide (L.length=0) then some [] else so t (p6 t n) L (L.length - 1) 1
def DJ {α β:Type} (o:Option (List α)) (k:List α→Bool→β):β:=match o with |some r=>k r true |none=>k [] false
theorem BG {t:List aH} {f:List Int→Option (List cS)} {L:List Int} (hf:∀ (L':List Int) r,f L'=some r→2*r.length=L'.length):∀ (k i:Nat) r,1≤i→i+k=L.length→so t f L k i=some r→2*r.length=L.length
 |0,i,r,h0,h,e=>by simp[so] at e
 |k+1,i,r,h0,h,e=>by
  unfold so at e
  cases hm:cT t (L.getD 0 0) (L.getD i 0) with
  |false=>rw[hm,cond_false] at e;exact BG hf k (i+1) r (by omega) (by omega) e
  |true=>
   rw[hm,cond_true] at e
   cases hr:f (oP L i) with
   |none=>rw[hr] at e;exact BG hf k (i+1) r (by omega) (by omega) e
   |some r'=>
    rw[hr] at e
    injection e with e
    subst e
    have h1:=hf _ _ hr
    rw[p5 h0 (by omega)] at h1
    simp only[List.length_cons]
    omega
theorem uL {t:List aH}:∀ (n:Nat) (L:List Int) r,p6 t n L=some r→2*r.length=L.length
 |0,L,r,e=>by simp[p6] at e
 |n+1,L,r,e=>by
  unfold p6 at e
  by_cases h:L.length=0
  ·rw[decide_eq_true h,cond_true] at e
   injection e with e
   subst e
   simp[h]
  ·rw[decide_eq_false h,cond_false] at e
   exact BG (fun L' r' e'=>uL n L' r' e') (L.length - 1) 1 r (by omega) (by omega) e
theorem O' {L:List Int} {i:Nat} (h1:1≤i) (h:i<L.length):(decide ((0:Int)≤(1:Int))&&decide ((1:Int)≤(i:Int))&&decide ((i:Int)≤(List.length L:Int)))=true∧(decide ((0:Int)≤((i+1:Nat):Int))&&decide (((i+1:Nat):Int)≤(List.length L:Int))&&decide ((List.length L:Int)≤(List.length L:Int)))=true:=by
 constructor
 ·rw[decide_eq_true (by omega),decide_eq_true (by omega),decide_eq_true (by omega)];rfl
 ·rw[decide_eq_true (by omega),decide_eq_true (by omega),decide_eq_true (by omega)];rfl
theorem Gn {N B:Nat} {self:List aH→List Int→(List cS→Bool→Option ab)→Option ab} {t:List aH} {f:List Int→Option (List cS)} {L:List Int} {k0:Option ab} {kf:List cS→Bool→Option ab}
  (hl:t.length≤maxLen) (hm:∀ x∈t,x.met.length≤maxLen∧x.met.length<N) (hN:t.length<N) (C7:20<N) (hL:L.length≤1000)
  (hs:∀ (i:Nat) k,1≤i→i<L.length→self t (oP L i) k=DJ (f (oP L i)) k) (CS:∀ (L':List Int) r,f L'=some r→2*r.length=L'.length):∀ (k i n:Nat),1≤i→i+k=L.length→k<n→
  rn N self t L n k0 kf (i:Int)=match so t f L k i with |some r=>kf r true |none=>k0
 |0,i,n+1,h1,h,hn=>by
  simp only[rn]
  rw[decide_eq_false (by omega)]
  rfl
 |k+1,i,n+1,h1,h,hn=>by
  have hx:=aN
  have ih:=Gn (k0:=k0) (kf:=kf) (B:=B) hl hm hN C7 hL hs CS k (i+1) n (by omega) (by omega) (by omega)
  obtain⟨d1,d2⟩:=O' (L:=L) h1 (by omega)
  have ew:IntKind.wrap .i64 ((i:Int)+1)=((i+1:Nat):Int):=hJ (m:=L.length) (i:=i) (by omega) (by omega)
  simp only[rn]
  rw[decide_eq_true (by omega),cond_true,show bC (0:Int) (List.length L)=true from aG (i:=0) (show 0<L.length by omega),cond_true,aG (show i<L.length by omega),cond_true,WD hl hm hN]
  unfold so
  show(bif !cT t (L.getD 0 0) (L.getD i 0) then _ else _)=_
  cases cT t (L.getD 0 0) (L.getD i 0) with
  |false=>
   simp only[Bool.not_false,cond_true,cond_false]
   rw[ew]
   exact ih
  |true=>
   simp only[Bool.not_true,cond_true,cond_false]
   rw[d1,cond_true,ew,d2,cond_true]
   have e3:(([]:List Int)++List.drop (Int.toNat (1:Int)) (List.take (Int.toNat (i:Int)) L))++List.drop (Int.toNat ((i+1:Nat):Int)) (List.take (Int.toNat (List.length L:Int)) L)=oP L i:=by
    rw[Int.toNat_natCast,Int.toNat_natCast,Int.toNat_natCast,List.take_length];rfl
   rw[e3]
   rw[decide_eq_true (by simp;omega),cond_true,decide_eq_true (by simp;omega),cond_true,hs i _ h1 (by omega)]
   unfold DJ
   cases hr:f (oP L i) with
   |none=>exact ih
   |some r=>
    have h2:=CS _ _ hr
    rw[p5 h1 (by omega)] at h2
    simp only[cond_true]
    rw[aj6 hl hm hN,decide_eq_true (by simp;omega),cond_true]
    rfl
theorem WT {t:List aH} {B:Nat} (hl:t.length≤maxLen) (hm:∀ x∈t,x.met.length≤maxLen∧x.met.length<B) (hB:t.length<B) (C7:20<B):∀ (n N:Nat) (L:List Int) (kf:List cS→Bool→Option ab),L.length≤n→L.length<B→L.length≤1000→B+n+1≤N→Tc N t L kf=DJ (p6 t (n+1) L) kf
 |n,0,L,kf,_,_,_,h=>by omega
 |n,N+1,L,kf,h1,h2,h3,h=>by
  show Tb (Tc N) N t L kf=_
  unfold Tb p6
  by_cases h0:L.length=0
  ·rw[decide_eq_true h0,cond_true]
   have:((List.length L:Int)==0)=true:=by simp[h0]
   rw[this];rfl
  ·rw[decide_eq_false h0,cond_false]
   have:((List.length L:Int)==0)=false:=by simp;intro e;exact h0 (by simp[e])
   rw[this,cond_false]
   obtain⟨n,rfl⟩:∃ m,n=m+1:=⟨n - 1,by omega⟩
   have:=Gn (N:=N) (B:=B) (self:=Tc N) (t:=t) (f:=p6 t (n+1)) (L:=L) (k0:=kf [] false) (kf:=kf) hl (fun x hx=>⟨(hm x hx).1,by have:=(hm x hx).2;omega⟩) (by omega) (by omega) h3 (fun i k hi1 nV=>by
    have hr:=p5 hi1 nV
    exact WT hl hm hB C7 n N (oP L i) k (by omega) (by omega) (by omega) (by omega)) (fun L' r e=>uL (n+1) L' r e) (L.length - 1) 1 N (by omega) (by omega) (by omega)
   refine Eq.trans this ?_
   unfold DJ
   cases so t (p6 t (n+1)) L (L.length - 1) 1<;>rfl
theorem Gp {N B:Nat} {self:List aH→List Int→(List cS→Bool→Option ab)→Option ab} {t:List aH} {f:List Int→Option (List cS)} {L:List Int} {k0:Option ab} {kf:List cS→Bool→Option ab}
  (hl:t.length≤maxLen) (hm:∀ x∈t,x.met.length≤maxLen∧x.met.length<N) (hN:t.length<N) (C7:20<N) (hL:L.length≤1000)
  (hs:∀ (i:Nat) k,1≤i→i<L.length→self t (oP L i) k=DJ (f (oP L i)) k) (CS:∀ (L':List Int) r,f L'=some r→2*r.length=L'.length):∀ (k i n:Nat),1≤i→i+k=L.length→k<n→
  q7 N self t L n k0 kf (i:Int)=match so t f L k i with |some r=>kf r true |none=>k0
 |0,i,n+1,h1,h,hn=>by
  simp only[q7]
  rw[decide_eq_false (by omega)]
  rfl
 |k+1,i,n+1,h1,h,hn=>by
  have hx:=aN
  have ih:=Gp (k0:=k0) (kf:=kf) (B:=B) hl hm hN C7 hL hs CS k (i+1) n (by omega) (by omega) (by omega)
  obtain⟨d1,d2⟩:=O' (L:=L) h1 (by omega)
  have ew:IntKind.wrap .i64 ((i:Int)+1)=((i+1:Nat):Int):=hJ (m:=L.length) (i:=i) (by omega) (by omega)
  simp only[q7]
  rw[decide_eq_true (by omega),cond_true,show bC (0:Int) (List.length L)=true from aG (i:=0) (show 0<L.length by omega),cond_true,aG (show i<L.length by omega),cond_true,aem hl hm hN]
  unfold so
  show(bif !cT t (L.getD 0 0) (L.getD i 0) then _ else _)=_
  cases cT t (L.getD 0 0) (L.getD i 0) with
  |false=>
   simp only[Bool.not_false,cond_true,cond_false]
   rw[ew]
   exact ih
  |true=>
   simp only[Bool.not_true,cond_true,cond_false]
   rw[d1,cond_true,ew,d2,cond_true]
   have e3:List.drop (Int.toNat (1:Int)) (List.take (Int.toNat (i:Int)) L)++List.drop (Int.toNat ((i+1:Nat):Int)) (List.take (Int.toNat (List.length L:Int)) L)=oP L i:=by
    rw[Int.toNat_natCast,Int.toNat_natCast,Int.toNat_natCast,List.take_length];rfl
   rw[aj9 (by simp;omega) (by simp;omega) (by omega),e3,hs i _ h1 (by omega)]
   unfold DJ
   cases hr:f (oP L i) with
   |none=>exact ih
   |some r=>
    have h2:=CS _ _ hr
    rw[p5 h1 (by omega)] at h2
    simp only[cond_true]
    rw[aj8 hl hm hN C7,decide_eq_true (by simp;omega),cond_true]
    rfl
theorem WU {t:List aH} {B:Nat} (hl:t.length≤maxLen) (hm:∀ x∈t,x.met.length≤maxLen∧x.met.length<B) (hB:t.length<B) (C7:20<B):∀ (n N:Nat) (L:List Int) (kf:List cS→Bool→Option ab),L.length≤n→L.length<B→L.length≤1000→B+n+1≤N→SZ N t L kf=DJ (p6 t (n+1) L) kf
 |n,0,L,kf,_,_,_,h=>by omega
 |n,N+1,L,kf,h1,h2,h3,h=>by
  show SY (SZ N) N t L kf=_
  unfold SY p6
  by_cases h0:L.length=0
  ·rw[decide_eq_true h0,cond_true]
   have:((List.length L:Int)==0)=true:=by simp[h0]
   rw[this];rfl
  ·rw[decide_eq_false h0,cond_false]
   have:((List.length L:Int)==0)=false:=by simp;intro e;exact h0 (by simp[e])
   rw[this,cond_false]
   obtain⟨n,rfl⟩:∃ m,n=m+1:=⟨n - 1,by omega⟩
   have:=Gp (N:=N) (B:=B) (self:=SZ N) (t:=t) (f:=p6 t (n+1)) (L:=L) (k0:=kf [] false) (kf:=kf) hl (fun x hx=>⟨(hm x hx).1,by have:=(hm x hx).2;omega⟩) (by omega) (by omega) h3 (fun i k hi1 nV=>by
    have hr:=p5 hi1 nV
    exact WU hl hm hB C7 n N (oP L i) k (by omega) (by omega) (by omega) (by omega)) (fun L' r e=>uL (n+1) L' r e) (L.length - 1) 1 N (by omega) (by omega) (by omega)
   refine Eq.trans this ?_
   unfold DJ
   cases so t (p6 t (n+1)) L (L.length - 1) 1<;>rfl
def jR (t:List aH):Option (List cS):=bif aK t then bif decide (t.length%2=1) then none else p6 t (t.length+1) (nP t) else none
theorem wI {t:List aH} (h:aK t=true):(nP t).length=t.length:=by unfold nP;rw[h,cond_true,List.length_map,uK]
theorem wJ {t:List aH} {r:List cS} (h:jR t=some r):2*r.length=t.length∧t.length≤10:=by
 unfold jR at h
 cases eJ:aK t with
 |false=>rw[eJ] at h;simp at h
 |true=>
  have BF:=eJ
  unfold aK at BF
  simp only[Bool.and_eq_true,decide_eq_true_eq] at BF
  rw[eJ,cond_true] at h
  by_cases ho:t.length%2=1
  ·rw[decide_eq_true ho] at h;simp at h
  ·rw[decide_eq_false ho,cond_false] at h
   have:=uL _ _ _ h
   rw[wI eJ] at this
   exact⟨this,BF.1⟩
theorem apN (n:Nat):(Int.tmod (n:Int) 2==1)=decide (n%2=1):=by
 have:Int.tmod (n:Int) 2=((n%2:Nat):Int):=by
  rw[Int.tmod_eq_emod_of_nonneg (by omega)];omega
 rw[this]
 by_cases h:n%2=1
 ·rw[h];rfl
 ·rw[decide_eq_false h];simp;omega
theorem asc {N:Nat} {t:List aH} {kf:List cS→Bool→Option ab} (hl:t.length≤maxLen) (hm:∀ x∈t,x.met.length≤maxLen∧x.met.length+20<N) (hN:t.length+20<N) (h60:60<N):S91 N t kf=DJ (jR t) kf:=by
 have hx:=aN
 unfold S91 jR
 rw[lO hl (fun x hx=>⟨(hm x hx).1,by have:=(hm x hx).2;omega⟩) (by omega)]
 cases eJ:aK t with
 |false=>rfl
 |true=>
  have BF:=eJ
  unfold aK at BF
  simp only[Bool.and_eq_true,decide_eq_true_eq] at BF
  rw[apN]
  by_cases ho:t.length%2=1
  ·rw[decide_eq_true ho];rfl
  ·rw[decide_eq_false ho]
   simp only[Bool.not_true,cond_true,cond_false]
   rw[aj3 hl (fun x hx=>⟨(hm x hx).1,by have:=(hm x hx).2;omega⟩) (by omega)]
   have hs:=wI eJ
   exact WT (B:=N - 15) hl (fun x hx=>⟨(hm x hx).1,by have:=(hm x hx).2;omega⟩) (by omega) (by omega) t.length N _ _ (by omega) (by omega) (by omega) (by omega)
theorem aj' {N:Nat} {t:List aH} {kf:List cS→Bool→Option ab} (hl:t.length≤maxLen) (hm:∀ x∈t,x.met.length≤maxLen∧x.met.length+20<N) (hN:t.length+20<N) (h60:60<N):aiU N t kf=DJ (jR t) kf:=by
 have hx:=aN
 unfold aiU jR
 rw[mU hl (fun x hx=>⟨(hm x hx).1,by have:=(hm x hx).2;omega⟩) (by omega)]
 cases eJ:aK t with
 |false=>rfl
 |true=>
  have BF:=eJ
  unfold aK at BF
  simp only[Bool.and_eq_true,decide_eq_true_eq] at BF
  rw[apN]
  by_cases ho:t.length%2=1
  ·rw[decide_eq_true ho];rfl
  ·rw[decide_eq_false ho]
   simp only[Bool.not_true,cond_true,cond_false]
   rw[WM hl (fun x hx=>⟨(hm x hx).1,by have:=(hm x hx).2;omega⟩) (by omega) (by omega)]
   have hs:=wI eJ
   exact WU (B:=N - 15) hl (fun x hx=>⟨(hm x hx).1,by have:=(hm x hx).2;omega⟩) (by omega) (by omega) t.length N _ _ (by omega) (by omega) (by omega) (by omega)
end Go.Pv.R
namespace Go.Pv.R
set_option linter.unusedVariables false
set_option linter.unusedSimpArgs false
def tR (t:List aH) (js:List bD) (p:cS) (used:List Int) (f:List Int→Option (List Int)):Nat→Nat→Option (List Int)
 |0,_=>none
 |k+1,i=>bif mV used (js.getD i cY).1 then tR t js p used f k (i+1) else
   bif eP t (js.getD i cY) p then
   (match f (used++[(js.getD i cY).1]) with
    |some r=>some ((js.getD i cY).1::r)
    |none=>tR t js p used f k (i+1))
  else tR t js p used f k (i+1)
def sq (t:List aH) (js:List bD):List cS→List Int→Option (List Int)
 |[],_=>some []
 |p::ps,used=>tR t js p used (sq t js ps) js.length 0
def asd {α β:Type} (o:Option (List α)) (k0:β) (k:List α→Bool→β):β:=match o with |some r=>k r true |none=>k0
theorem WV {α β:Type} (o:Option (List α)) (k:List α→Bool→β):asd o (k [] false) k=DJ o k:=by cases o<;>rfl
def TD (js:List bD) (n:Nat) (used r:List Int):Prop:=r.length=n∧r.Nodup∧∀ x∈r,x∈js.map (fun x:bD=>x.1)∧x∉used
theorem uM {t:List aH} {js:List bD} {p:cS} {used:List Int} {f:List Int→Option (List Int)} {n:Nat} (hf:∀ u r,f u=some r→TD js n u r):∀ (k i:Nat) r,i+k=js.length→tR t js p used f k i=some r→TD js (n+1) used r
 |0,i,r,h,e=>by simp[tR] at e
 |k+1,i,r,h,e=>by
  unfold tR at e
  cases hu:mV used (js.getD i cY).1 with
  |true=>rw[hu,cond_true] at e;exact uM hf k (i+1) r (by omega) e
  |false=>
   rw[hu,cond_false] at e
   cases hm:eP t (js.getD i cY) p with
   |false=>rw[hm,cond_false] at e;exact uM hf k (i+1) r (by omega) e
   |true=>
    rw[hm,cond_true] at e
    cases hr:f (used++[(js.getD i cY).1]) with
    |none=>rw[hr] at e;exact uM hf k (i+1) r (by omega) e
    |some r'=>
     rw[hr] at e
     injection e with e
     subst e
     obtain⟨h1,h2,h3⟩:=hf _ _ hr
     have fT:(js.getD i cY).1∈js.map (fun x:bD=>x.1):=by
      rw[ax _ _ (show i<js.length by omega)]
      exact List.mem_map.2 ⟨_,List.getElem_mem _,rfl⟩
     have hnu:(js.getD i cY).1∉used:=fun hc=>by
      have:=l7.2 hc
      rw[hu] at this
      cases this
     refine⟨by simp[h1],List.nodup_cons.2 ⟨fun hc=>?_,h2⟩,fun x hx=>?_⟩
     ·have:=(h3 _ hc).2
      simp at this
     ·rcases List.mem_cons.1 hx with rfl |hx
      ·exact⟨fT,hnu⟩
      ·obtain⟨q1,q2⟩:=h3 x hx
       refine⟨q1,fun hc=>q2 ?_⟩
       simp[hc]
theorem tS {t:List aH} {js:List bD}:∀ (ps:List cS) (used r:List Int),sq t js ps used=some r→TD js ps.length used r
 |[],used,r,e=>by
  unfold sq at e
  injection e with e
  subst e
  exact⟨rfl,List.nodup_nil,fun x hx=>by simp at hx⟩
 |p::ps,used,r,e=>uM (fun u r e=>tS ps u r e) js.length 0 r (by omega) e
theorem p7:∀ (r L:List Int),r.Nodup→(∀ x∈r,x∈L)→r.length≤L.length
 |[],L,_,_=>by simp
 |x::r,L,hn,h=>by
  rw[List.nodup_cons] at hn
  have hx:=h x (by simp)
  have h1:=List.length_erase_of_mem hx
  have h2:=List.length_pos_of_mem hx
  have:=p7 r (L.erase x) hn.2 fun y hy=>by
   have pj:y≠x:=fun e=>hn.1 (e▸hy)
   exact(List.mem_erase_of_ne pj).2 (h y (by simp[hy]))
  simp only[List.length_cons]
  omega
theorem aeA {t:List aH} {js:List bD} {ps:List cS} {used r:List Int} (h:sq t js ps used=some r):ps.length≤js.length:=by
 obtain⟨h1,h2,h3⟩:=tS ps used r h
 have:=p7 r (js.map fun x:bD=>x.1) h2 fun x hx=>(h3 x hx).1
 rw[List.length_map] at this
 omega
theorem WW {p:cS} {ps:List cS}:(decide ((0:Int)≤(1:Int))&&decide ((1:Int)≤(List.length (p::ps):Int))&&decide ((List.length (p::ps):Int)≤(List.length (p::ps):Int)))=true∧List.drop (Int.toNat (1:Int)) (List.take (Int.toNat (List.length (p::ps):Int)) (p::ps))=ps:=by
 constructor
 ·rw[decide_eq_true (by omega),decide_eq_true (by simp only[List.length_cons];omega),decide_eq_true (by omega)];rfl
 ·rw[Int.toNat_natCast,List.take_length];rfl
theorem Gq {N:Nat} {self:List aH→List bD→List cS→List Int→(List Int→Bool→Option ab)→Option ab} {t:List aH} {js:List bD} {p:cS} {ps:List cS} {used:List Int} {f:List Int→Option (List Int)} {k0:Option ab} {kf:List Int→Bool→Option ab}
  (hl:t.length≤maxLen) (hN:t.length<N) (C7:20<N) (hj:js.length≤1048700) (yJ:∀ x∈js,x.2.2.length≤maxLen∧x.2.2.length<N) (hu:used.length≤1000) (huN:used.length<N)
  (hs:∀ (x:Int) k,self t js ps (used++[x]) k=DJ (f (used++[x])) k) (CS:∀ (u:List Int) r,f u=some r→r.length≤1000):∀ (k i n:Nat),i+k=js.length→k<n→
  oz N self t js (p::ps) used n k0 kf (i:Int)=asd (tR t js p used f k i) k0 kf
 |0,i,n+1,h,hn=>by
  simp only[oz]
  rw[decide_eq_false (by omega)]
  rfl
 |k+1,i,n+1,h,hn=>by
  have hx:=aN
  have ih:=Gq (k0:=k0) (kf:=kf) (p:=p) hl hN C7 hj yJ hu huN hs CS k (i+1) n (by omega) (by omega)
  have ew:IntKind.wrap .i64 ((i:Int)+1)=((i+1:Nat):Int):=hJ (m:=js.length) (i:=i) (by omega) (by omega)
  obtain⟨d1,d2⟩:=WW (p:=p) (ps:=ps)
  have hi:i<js.length:=by omega
  obtain⟨m1,m2⟩:=yJ js[i] (List.getElem_mem hi)
  simp only[oz]
  rw[decide_eq_true (by omega),cond_true,aG hi,cond_true,rO (by omega) huN]
  unfold tR
  have eg:js.getD (Int.toNat (i:Int)) cY=js[i]:=ax _ _ hi _
  have eg2:js.getD i cY=js[i]:=ax _ _ hi _
  rw[eg,eg2]
  cases mV used js[i].1 with
  |true=>
   simp only[cond_true]
   rw[ew]
   exact ih
  |false=>
   simp only[cond_false]
   rw[cond_true,show bC (0:Int) (List.length (p::ps))=true from aG (i:=0) (by simp),cond_true,WE hl hN m1 m2]
   show(bif !eP t js[i] p then _ else _)=_
   cases eP t js[i] p with
   |false=>
    simp only[Bool.not_false,cond_true,cond_false]
    rw[ew]
    exact ih
   |true=>
    simp only[Bool.not_true,cond_true,cond_false]
    rw[d1,cond_true,d2,decide_eq_true (by simp;omega),cond_true,decide_eq_true (by simp;omega),cond_true,List.nil_append,hs,ew]
    unfold DJ
    cases hr:f (used++[js[i].1]) with
    |none=>exact ih
    |some r=>
     have:=CS _ _ hr
     simp only[cond_true]
     rw[decide_eq_true (by simp;omega),cond_true]
     rfl
theorem Gr {N:Nat} {self:List aH→List bD→List cS→List Int→(List Int→Bool→Option ab)→Option ab} {t:List aH} {js:List bD} {p:cS} {ps:List cS} {used:List Int} {f:List Int→Option (List Int)} {k0:Option ab} {kf:List Int→Bool→Option ab}
  (hl:t.length≤maxLen) (hN:t.length<N) (C7:20<N) (hj:js.length≤1048700) (yJ:∀ x∈js,x.2.2.length≤maxLen∧x.2.2.length<N) (hu:used.length≤1000) (huN:used.length<N)
  (hs:∀ (x:Int) k,self t js ps (used++[x]) k=DJ (f (used++[x])) k) (CS:∀ (u:List Int) r,f u=some r→r.length≤1000):∀ (k i n:Nat),i+k=js.length→k<n→
  og N self t js (p::ps) used js (js.length:Int) n k0 kf (i:Int)=asd (tR t js p used f k i) k0 kf
 |0,i,n+1,h,hn=>by
  simp only[og]
  rw[decide_eq_false (by omega)]
  rfl
 |k+1,i,n+1,h,hn=>by
  have hx:=aN
  have ih:=Gr (k0:=k0) (kf:=kf) (p:=p) hl hN C7 hj yJ hu huN hs CS k (i+1) n (by omega) (by omega)
  have ew:IntKind.wrap .i64 ((i:Int)+1)=((i+1:Nat):Int):=hJ (m:=js.length) (i:=i) (by omega) (by omega)
  obtain⟨d1,d2⟩:=WW (p:=p) (ps:=ps)
  have hi:i<js.length:=by omega
  obtain⟨m1,m2⟩:=yJ js[i] (List.getElem_mem hi)
  simp only[og]
  rw[decide_eq_true (by omega),cond_true,aG hi,cond_true,Ki (by omega) huN]
  unfold tR
  have eg:js.getD (Int.toNat (i:Int)) cY=js[i]:=ax _ _ hi _
  have eg2:js.getD i cY=js[i]:=ax _ _ hi _
  rw[eg,eg2]
  cases mV used js[i].1 with
  |true=>
   simp only[cond_true]
   rw[ew]
   exact ih
  |false=>
   simp only[cond_false]
   rw[show bC (0:Int) (List.length (p::ps))=true from aG (i:=0) (by simp),cond_true,aen hl hN m1 m2 (by omega)]
   show(bif !eP t js[i] p then _ else _)=_
   cases eP t js[i] p with
   |false=>
    simp only[Bool.not_false,cond_true,cond_false]
    rw[ew]
    exact ih
   |true=>
    simp only[Bool.not_true,cond_true,cond_false]
    rw[d1,cond_true,d2,D5 (by omega),decide_eq_true (by simp;omega),cond_true,hs,ew]
    unfold DJ
    cases hr:f (used++[js[i].1]) with
    |none=>exact ih
    |some r=>
     have:=CS _ _ hr
     simp only[cond_true]
     rw[decide_eq_true (by simp;omega),cond_true]
     rfl
theorem WX {t:List aH} {js:List bD} {B:Nat} (hl:t.length≤maxLen) (hN:t.length<B) (C7:20<B) (hj:js.length≤1048700) (hjN:js.length<B) (yJ:∀ x∈js,x.2.2.length≤maxLen∧x.2.2.length<B):∀ (ps:List cS) (N:Nat) (used:List Int) (kf:List Int→Bool→Option ab),used.length+ps.length≤900→used.length+ps.length<B→B+ps.length+1≤N→Tf N t js ps used kf=DJ (sq t js ps used) kf
 |ps,0,used,kf,_,_,h=>by omega
 |[],N+1,used,kf,_,_,_=>rfl
 |p::ps,N+1,used,kf,h1,h2,h=>by
  simp only[List.length_cons] at h h1 h2
  show Te (Tf N) N t js (p::ps) used kf=_
  unfold Te sq
  have e:((List.length (p::ps):Int)==0)=false:=by simp;omega
  rw[e,cond_false,←WV]
  exact Gq (N:=N) (self:=Tf N) (f:=sq t js ps) hl (by omega) (by omega) hj (fun x hx=>⟨(yJ x hx).1,by have:=(yJ x hx).2;omega⟩) (by omega) (by omega) (fun x k=>WX hl hN C7 hj hjN yJ ps N _ k (by simp;omega) (by simp;omega) (by omega)) (fun u r e=>by have:=(tS ps u r e).1;omega) js.length 0 N (by omega) (by omega)
theorem WY {t:List aH} {js:List bD} {B:Nat} (hl:t.length≤maxLen) (hN:t.length<B) (C7:20<B) (hj:js.length≤1048700) (hjN:js.length<B) (yJ:∀ x∈js,x.2.2.length≤maxLen∧x.2.2.length<B):∀ (ps:List cS) (N:Nat) (used:List Int) (kf:List Int→Bool→Option ab),used.length+ps.length≤900→used.length+ps.length<B→B+ps.length+1≤N→S4 N t js ps used kf=DJ (sq t js ps used) kf
 |ps,0,used,kf,_,_,h=>by omega
 |[],N+1,used,kf,_,_,_=>rfl
 |p::ps,N+1,used,kf,h1,h2,h=>by
  simp only[List.length_cons] at h h1 h2
  show S0 (S4 N) N t js (p::ps) used kf=_
  unfold S0 sq
  have e:((List.length (p::ps):Int)==0)=false:=by simp;omega
  rw[e,cond_false,←WV]
  exact Gr (N:=N) (self:=S4 N) (f:=sq t js ps) hl (by omega) (by omega) hj (fun x hx=>⟨(yJ x hx).1,by have:=(yJ x hx).2;omega⟩) (by omega) (by omega) (fun x k=>WY hl hN C7 hj hjN yJ ps N _ k (by simp;omega) (by simp;omega) (by omega)) (fun u r e=>by have:=(tS ps u r e).1;omega) js.length 0 N (by omega) (by omega)
def iK (t:List aH) (js:List bD) (ps:List cS):Option (List Int):=bif cz js&&aK t then sq t js ps [] else none
theorem aeB {N:Nat} {t:List aH} {js:List bD} {ps:List cS} {kf:List Int→Bool→Option ab} (hl:t.length≤maxLen) (hm:∀ x∈t,x.met.length≤maxLen∧x.met.length+20<N) (hN:t.length+20<N) (h60:60<N) (hj:js.length≤1048700) (hjN:js.length+20<N) (yJ:∀ x∈js,x.2.2.length≤maxLen∧x.2.2.length+20<N) (hp:ps.length≤10):S92 N t js ps kf=DJ (iK t js ps) kf:=by
 have hx:=aN
 unfold S92 iK
 rw[Kj (by omega) (fun x hx=>⟨(yJ x hx).1,by have:=(yJ x hx).2;omega⟩) (by omega)]
 cases cz js with
 |false=>rfl
 |true=>
  simp only[Bool.not_true,cond_false,Bool.true_and]
  rw[lO hl (fun x hx=>⟨(hm x hx).1,by have:=(hm x hx).2;omega⟩) (by omega)]
  cases aK t with
  |false=>rfl
  |true=>exact WX (B:=N - 15) hl (by omega) (by omega) hj (by omega) (fun x hx=>⟨(yJ x hx).1,by have:=(yJ x hx).2;omega⟩) ps N [] kf (by simp;omega) (by simp;omega) (by omega)
theorem WZ {N:Nat} {t:List aH} {js:List bD} {ps:List cS} {kf:List Int→Bool→Option ab} (hl:t.length≤maxLen) (hm:∀ x∈t,x.met.length≤maxLen∧x.met.length+20<N) (hN:t.length+20<N) (h60:60<N) (hj:js.length≤1048700) (hjN:js.length+20<N) (yJ:∀ x∈js,x.2.2.length≤maxLen∧x.2.2.length+20<N) (hp:ps.length≤10):aiV N t js ps kf=DJ (iK t js ps) kf:=by
 have hx:=aN
 unfold aiV iK
 rw[Tw (by omega) (fun x hx=>⟨(yJ x hx).1,by have:=(yJ x hx).2;omega⟩) (by omega)]
 cases cz js with
 |false=>rfl
 |true=>
  simp only[Bool.not_true,cond_false,Bool.true_and]
  rw[mU hl (fun x hx=>⟨(hm x hx).1,by have:=(hm x hx).2;omega⟩) (by omega)]
  cases aK t with
  |false=>rfl
  |true=>
   simp only[Bool.not_true,cond_false,cond_true]
   by_cases hgt:ps.length>js.length
   ·rw[decide_eq_true (by omega),cond_true]
    cases hs:sq t js ps [] with
    |none=>rfl
    |some r=>have:=aeA hs;omega
   ·rw[decide_eq_false (by omega),cond_false]
    exact WY (B:=N - 15) hl (by omega) (by omega) hj (by omega) (fun x hx=>⟨(yJ x hx).1,by have:=(yJ x hx).2;omega⟩) ps N [] kf (by simp;omega) (by simp;omega) (by omega)
def yK (c:aP) (ps:List cS) (ss:List Int):aP:=(c.1,(c.2.1,(ps,(ss,(List.replicate ps.length ((0:Int),((0:Int),(0:Int))),c.2.2.2.2.2)))))
def jE (c:aP):Bool:=decide (c.2.2.1.length=0)&&decide (0<c.1.length)
def cM (c:aP):aP×Bool:=match jR c.1 with
 |none=>(c,false)
 |some ps=>match iK c.1 c.2.1 ps with
  |none=>(c,false)
  |some ss=>bif jE c then(eG c (yK c ps ss) 3 0,ef c (yK c ps ss) 3 0) else(c,false)
theorem Pb {c:aP} {N:Nat} {ps:List cS} {ss:List Int} (h:bV c N) (hp:ps.length≤10) (hs:ss.length≤10) (hN:60<N):bV (yK c ps ss) N:=
 ⟨h.tl,h.tm,h.tN,h.jl,h.jm,h.jN,by show ps.length≤_;omega,by show 2*ps.length<_;omega,by show ss.length≤_;omega,by show ss.length<_;omega,by show(List.replicate _ _).length≤_;rw[List.length_replicate];omega,by show(List.replicate _ _).length<_;rw[List.length_replicate];omega,h.ml,h.mN,h.n8,h.tb,h.tmb,h.jb,h.jmb⟩
theorem Gs {t:List aH} {js:List bD} {ps:List cS} {ss:List Int} (h:iK t js ps=some ss):ss.length=ps.length:=by
 unfold iK at h
 cases hb:(cz js&&aK t) with
 |false=>rw[hb] at h;simp at h
 |true=>rw[hb,cond_true] at h;exact(tS _ _ _ h).1
theorem ase {N:Nat} {c:aP} {kf:aP→Bool→Option ab} (h:bV c N) (h':bV c (N - 40)) (hN:200<N) (hl:c.2.2.2.2.2.1.length+1<N):S21 N c kf=kf (cM c).1 (cM c).2:=by
 have hx:=aN
 have t1:=h'.tN
 have t2:=h'.jN
 have t3:=h'.tm
 have t4:=h'.jm
 have hj:=h.jb
 have htm:∀ x:aH,x∈c.1→x.met.length≤maxLen∧x.met.length+20<N:=fun x hx=>⟨(t3 x hx).1,by have:=(t3 x hx).2;omega⟩
 have yJ:∀ x∈c.2.1,x.2.2.length≤maxLen∧x.2.2.length+20<N:=fun x hx=>⟨(t4 x hx).1,by have:=(t4 x hx).2;omega⟩
 have u9:∀ out cq fY,ZI N c out false cq fY kf=kf c false:=fun out cq fY=>(wG (out:=out) h (fun e=>by cases e) hN hl)
 unfold S21 cM
 rw[tM h,asc h.tl htm (by omega) (by omega)]
 unfold DJ
 cases hr:jR c.1 with
 |none=>
  simp only[]
  rw[aeB h.tl htm (by omega) (by omega) hj (by omega) yJ (by simp)]
  unfold DJ
  cases iK c.1 c.2.1 []<;>exact u9 _ _ _
 |some ps=>
  obtain⟨l1,l2⟩:=wJ hr
  simp only[]
  rw[aeB h.tl htm (by omega) (by omega) hj (by omega) yJ (by omega)]
  unfold DJ
  have e0:(decide ((List.length ps:Int)=(List.length ps:Int))&&decide ((0:Int)≤(List.length ps:Int))&&decide ((List.length ps:Int)≤1099511627776))=true:=by
   rw[decide_eq_true rfl,decide_eq_true (by omega),decide_eq_true (by omega)];rfl
  have e0t:(decide True&&decide ((0:Int)≤(List.length ps:Int))&&decide ((List.length ps:Int)≤1099511627776))=true:=by
   rw[decide_eq_true trivial,decide_eq_true (by omega),decide_eq_true (by omega)];rfl
  cases hs:iK c.1 c.2.1 ps with
  |none=>
   simp only[]
   first |rw[e0] |rw[e0t]
   exact u9 _ _ _
  |some ss=>
   have l3:=Gs hs
   have hd:=fun ok=>wG (out:=yK c ps ss) (ok:=ok) (cq:=3) (fY:=0) (kf:=kf) h (fun _=>Pb h (by omega) (by omega) (by omega)) hN hl
   simp only[]
   first |rw[e0] |rw[e0t]
   simp only[cond_true]
   unfold S94 jE
   by_cases cQ:c.2.2.1.length=0
   ·rw[decide_eq_false (show ¬(List.length c.2.2.1:Int)>0 by omega),decide_eq_true cQ]
    simp only[Bool.not_false,cond_true,Bool.true_and]
    have e2:decide ((List.length c.1:Int)>(0:Int))=decide (0<c.1.length):=decide_eq_decide.2 (by omega)
    rw[e2]
    refine(hd (decide (0<c.1.length))).trans ?_
    cases decide (0<c.1.length)<;>rfl
   ·rw[decide_eq_true (show(List.length c.2.2.1:Int)>0 by omega),decide_eq_false cQ]
    exact u9 _ _ _
theorem asf {N:Nat} {c:aP} {kf:aP→Bool→Option ab} (h:bV c N) (h':bV c (N - 40)) (hN:200<N) (hl:c.2.2.2.2.2.1.length+1<N):I23 N c kf=kf (cM c).1 (cM c).2:=by
 have hx:=aN
 have t1:=h'.tN
 have t2:=h'.jN
 have t3:=h'.tm
 have t4:=h'.jm
 have hj:=h.jb
 have htm:∀ x:aH,x∈c.1→x.met.length≤maxLen∧x.met.length+20<N:=fun x hx=>⟨(t3 x hx).1,by have:=(t3 x hx).2;omega⟩
 have yJ:∀ x∈c.2.1,x.2.2.length≤maxLen∧x.2.2.length+20<N:=fun x hx=>⟨(t4 x hx).1,by have:=(t4 x hx).2;omega⟩
 have u9:cw c=false→cM c=(c,false):=fun hc=>by
  have hd:∀ out cq fY,ef c out cq fY=false:=fun out cq fY=>by unfold ef;rw[hc];simp
  have hd2:∀ out cq fY,eG c out cq fY=c:=fun out cq fY=>by unfold eG;rw[hd];rfl
  unfold cM
  cases jR c.1 with
  |none=>rfl
  |some ps=>
   simp only[]
   cases iK c.1 c.2.1 ps with
   |none=>rfl
   |some ss=>
    simp only[hd,hd2]
    cases jE c<;>rfl
 have awp:jE c=false→cM c=(c,false):=fun hc=>by
  unfold cM
  cases jR c.1 with
  |none=>rfl
  |some ps=>
   simp only[]
   cases iK c.1 c.2.1 ps with
   |none=>rfl
   |some ss=>
    simp only[hc]
    rfl
 unfold I23
 rw[o9 h,nL h]
 cases hc:cw c with
 |false=>rw[u9 hc];rfl
 |true=>
  unfold Om
  show(bif decide ((List.length c.2.2.1:Int)>(0:Int)) then _ else _)=_
  by_cases cQ:c.2.2.1.length=0
  rotate_left
  ·rw[decide_eq_true (show(List.length c.2.2.1:Int)>0 by omega),cond_true,awp (by unfold jE;rw[decide_eq_false cQ];rfl)]
  rw[decide_eq_false (show ¬(List.length c.2.2.1:Int)>0 by omega),cond_false]
  by_cases h0:c.1.length=0
  ·have e:((List.length c.1:Int)==0)=true:=by simp[h0]
   rw[e,cond_true,awp (by unfold jE;rw[decide_eq_false (show ¬ 0<c.1.length by omega)];simp)]
  have e:((List.length c.1:Int)==0)=false:=by simp;intro q;exact h0 (by simp[q])
  have hmp:jE c=true:=by unfold jE;rw[decide_eq_true cQ,decide_eq_true (show 0<c.1.length by omega)];rfl
  rw[e,cond_false,aj' h.tl htm (by omega) (by omega)]
  unfold DJ cM
  cases hr:jR c.1 with
  |none=>
   simp only[]
   rw[WZ h.tl htm (by omega) (by omega) hj (by omega) yJ (by simp)]
   unfold DJ
   cases iK c.1 c.2.1 []<;>rfl
  |some ps=>
   obtain⟨l1,l2⟩:=wJ hr
   simp only[]
   rw[WZ h.tl htm (by omega) (by omega) hj (by omega) yJ (by omega)]
   unfold DJ
   have e0:(decide ((List.length ps:Int)=(List.length ps:Int))&&decide ((0:Int)≤(List.length ps:Int))&&decide ((List.length ps:Int)≤1099511627776))=true:=by
    rw[decide_eq_true rfl,decide_eq_true (by omega),decide_eq_true (by omega)];rfl
   have e0t:(decide True&&decide ((0:Int)≤(List.length ps:Int))&&decide ((List.length ps:Int)≤1099511627776))=true:=by
    rw[decide_eq_true trivial,decide_eq_true (by omega),decide_eq_true (by omega)];rfl
   cases hs:iK c.1 c.2.1 ps with
   |none=>rfl
   |some ss=>
    have l3:=Gs hs
    simp only[hmp,cond_true]
    first |rw[e0] |rw[e0t]
    simp only[cond_true,Bool.not_true,cond_false]
    exact uJ (out:=yK c ps ss) h (Pb h (by omega) (by omega) (by omega)) rfl hN hl
end Go.Pv.R
namespace Go.Pv.R
set_option linter.unusedVariables false
set_option linter.unusedSimpArgs false
def ofM (b:eN):Int:=bif decide (b.2.1>b.2.2) then 1 else 2
theorem BH (b:eN):ofM b=1∨ofM b=2:=by
 unfold ofM
 cases decide (b.2.1>b.2.2)<;>simp
theorem aka {N:Nat} {b:eN} {kf:Int→Option ab}:ZK N b kf=kf (ofM b):=by
 unfold ZK ofM
 cases decide (b.2.1>b.2.2)<;>rfl
theorem akb {N:Nat} {b:eN} {kf:Int→Option ab}:ZB N b kf=kf (ofM b):=by
 unfold ZB ofM
 cases decide (b.2.1>b.2.2)<;>rfl
theorem Pc {N:Nat} {b:eN} {kf:Bool→Option ab} (hN:2<N):Tk N [b] kf=kf (cC b):=by
 have hm:=aN
 unfold Tk
 rw[aaj (by simp;omega) (by simp;omega)]
 simp only[lX,Kk]
 cases cC b<;>rfl
theorem tT {N:Nat} {b:eN} {kf:Bool→Option ab} (hN:2<N):ZA N [b] kf=kf (cC b):=by
 have hm:=aN
 unfold ZA
 rw[Z0 (by simp;omega) (by simp;omega)]
 simp only[lX,Kl]
 cases cC b<;>rfl
def IP (b:eN) (k:Int):Int:=bif ofM b==k then 1 else 0
theorem aeC {N:Nat} {b:eN} {k:Int} {kf:Int→Option ab} (hN:2<N) (hb:cC b=true):ad0 N [b] k kf=kf (IP b k):=by
 have hm:=aN
 unfold ad0 IP
 rw[aak (by simp;omega) (by simp;omega)]
 simp only[c6,Pc hN,hb,cond_true,aka]
 cases ofM b==k<;>rfl
theorem aeD {N:Nat} {b:eN} {k:Int} {kf:Int→Option ab} (hN:2<N) (hb:cC b=true):adH N [b] k kf=kf (IP b k):=by
 have hm:=aN
 unfold adH IP
 rw[tT hN,hb]
 simp only[Bool.not_true,cond_false]
 rw[Z1 (by simp;omega) (by simp;omega)]
 simp only[c6,akb]
 cases ofM b==k<;>rfl
theorem Pd {N:Nat} {b:eN} {kf:Int→Option ab} {k:Int} (hN:2<N) (hb:cC b=true):∃ r,∀ kf,S5 N [b] k kf=kf r:=by
 have hm:=aN
 by_cases h1:k=1
 ·subst h1
  refine⟨IntKind.wrap .i64 (0+b.2.1),fun kf=>?_⟩
  unfold S5
  rw[tT hN,hb]
  simp only[Bool.not_true,cond_false]
  rw[BA (by simp;omega) (by simp;omega)]
  simp only[c6]
  rfl
 ·have e1:(k==(1:Int))=false:=by simpa using h1
  by_cases h2:k=2
  ·subst h2
   refine⟨IntKind.wrap .i64 (0+b.2.2),fun kf=>?_⟩
   unfold S5
   rw[tT hN,hb]
   simp only[Bool.not_true,cond_false]
   rw[BA (by simp;omega) (by simp;omega)]
   simp only[c6]
   rfl
  ·have e2:(k==(2:Int))=false:=by simpa using h2
   refine⟨0,fun kf=>?_⟩
   unfold S5
   rw[tT hN,hb]
   simp only[Bool.not_true,cond_false]
   rw[BA (by simp;omega) (by simp;omega)]
   simp only[c6,e1,e2,cond_false]
theorem aeE {N:Nat} {b:eN} {kf:Int→Option ab} (hN:2<N) (hb:cC b=true):ZL N [b] kf=kf (ofM b):=by
 unfold ZL
 have e:((List.length [b]:Int)==(0:Int))=false:=rfl
 rw[e,cond_false,Pc hN,hb]
 simp only[Bool.not_true,cond_false,aeC hN hb]
 unfold IP
 rcases BH b with h |h<;>rw[h]<;>rfl
theorem aeF {N:Nat} {b:eN} {kf:Int→Option ab} (hN:2<N) (hb:cC b=true):ZC N [b] kf=kf (ofM b):=by
 unfold ZC
 have e:((List.length [b]:Int)==(0:Int))=false:=rfl
 obtain⟨r1,h1⟩:=Pd (N:=N) (b:=b) (kf:=kf) (k:=1) hN hb
 obtain⟨r2,h2⟩:=Pd (N:=N) (b:=b) (kf:=kf) (k:=2) hN hb
 rw[e,cond_false,tT hN,hb]
 simp only[Bool.not_true,cond_false,aeD hN hb,h1,h2]
 unfold IP
 rcases BH b with h |h<;>rw[h]<;>rfl
def two {α:Type} (t:List α) (i j:Nat) (x y:α):List α:=(t.set i x).set j y
section
variable {α:Type} {t:List α} {i j:Nat} {x y x' y' z:α}
theorem yL:(two t i j x y).length=t.length:=by simp[two]
theorem Pe (h:i≠j) (hi:i<t.length):(two t i j x y).getD i z=x:=by
 rw[List.getD_eq_getElem?_getD,two,List.getElem?_set_ne (by omega),List.getElem?_set_self hi];rfl
theorem Pf (hj:j<t.length):(two t i j x y).getD j z=y:=by
 rw[List.getD_eq_getElem?_getD,two,List.getElem?_set_self (by simpa using hj)];rfl
theorem Pg (h:i≠j):(two t i j x y).set i x'=two t i j x' y:=by
 unfold two
 rw[List.set_comm _ _ (fun e=>h e.symm),List.set_set]
theorem Ph:(two t i j x y).set j y'=two t i j x y':=by
 unfold two
 rw[List.set_set]
theorem Gt (h:i≠j):(t.set i x).getD j z=t.getD j z:=by
 rw[List.getD_eq_getElem?_getD,List.getElem?_set_ne (by omega),←List.getD_eq_getElem?_getD]
theorem W2:(t.set i x).set j y=two t i j x y:=by rw[two]
end
def rQ (t:List aH) (i:Nat) (b d p:Int):aH:=((t.getD i aC).1,((t.getD i aC).2.1,((bif d==1 then IntKind.wrap .i64 ((t.getD i aC).2.2.1+1) else(t.getD i aC).2.2.1),(IntKind.wrap .i64 ((t.getD i aC).2.2.2.1+p),(IntKind.wrap .i64 ((t.getD i aC).2.2.2.2.1+1),(t.getD i aC).2.2.2.2.2++[b])))))
def kU (t:List aH) (j:Nat) (a d q:Int):aH:=((t.getD j aC).1,((t.getD j aC).2.1,((bif d==1 then(t.getD j aC).2.2.1 else IntKind.wrap .i64 ((t.getD j aC).2.2.1+1)),(IntKind.wrap .i64 ((t.getD j aC).2.2.2.1+q),((t.getD j aC).2.2.2.2.1,(t.getD j aC).2.2.2.2.2++[a])))))
def sB (t:List aH) (a b d p q:Int):List aH:=two t (aI t a).toNat (aI t b).toNat (rQ t (aI t a).toNat b d p) (kU t (aI t b).toNat a d q)
def Gu (t:List aH) (a b d p q:Int):Bool:=aK t&&(decide (aI t a≥0)&&(decide (aI t b≥0)&&((aI t a != aI t b)&&(jn d 1 2&&(jn p 0 1000&&jn q 0 1000)))))
def tU (t:List aH) (a b d p q:Int):Bool:=Gu t a b d p q&&aK (sB t a b d p q)
def Gv (t:List aH) (a b d p q:Int):List aH:=bif tU t a b d p q then sB t a b d p q else t
theorem tV {t:List aH} {a b d p q:Int} {N:Nat} (ha:aI t a≥0) (hb:aI t b≥0) (h:∀ x:aH,x∈t→x.met.length+1<N):∀ x:aH,x∈sB t a b d p q→x.met.length<N:=by
 intro x hx
 unfold sB two at hx
 rcases List.mem_or_eq_of_mem_set hx with hx |rfl
 ·rcases List.mem_or_eq_of_mem_set hx with hx |rfl
  ·have:=h x hx;omega
  ·have:=h _ (eo ha).1
   show((t.getD (aI t a).toNat aC).2.2.2.2.2++[b]).length<N
   rw[List.length_append];exact this
 ·have:=h _ (eo hb).1
  show((t.getD (aI t b).toNat aC).2.2.2.2.2++[a]).length<N
  rw[List.length_append];exact this
theorem akc {N:Nat} {t:List aH} {a b d p q:Int} {kf:List aH→Bool→Option ab} (hl:t.length≤1048700) (hm:∀ x:aH,x∈t→x.met.length≤1048700∧x.met.length+1<N) (hN:t.length<N):ZM N t a b d p q kf=kf (Gv t a b d p q) (tU t a b d p q):=by
 have hx:=aN
 have hm1:∀ x∈t,x.met.length≤maxLen∧x.met.length<N:=fun x hx=>by have:=hm x hx;omega
 unfold ZM Gv tU Gu
 rw[rP hl (fun x hx=>(hm x hx).1) hN,kQ (by omega) hN,kQ (by omega) hN,lO (by omega) hm1 hN]
 simp only[mT]
 cases aK t with
 |false=>rfl
 |true=>
  by_cases ha:aI t a≥0
  rotate_left
  ·rw[decide_eq_true (show aI t a<0 by omega),decide_eq_false ha];rfl
  by_cases hb:aI t b≥0
  rotate_left
  ·rw[decide_eq_false (show ¬aI t a<0 by omega),decide_eq_true ha,decide_eq_true (show aI t b<0 by omega),decide_eq_false hb];rfl
  have hT:∀ x:aH,x∈sB t a b d p q→x.met.length<N:=tV ha hb fun x hx=>(hm x hx).2
  have hT2:∀ x:aH,x∈sB t a b d p q→x.met.length<1048800:=tV ha hb fun x hx=>by have:=(hm x hx).1;omega
  obtain⟨i,hi,ei,_⟩:=ck (p:=fun x:aH=>x.1==a) (l:=t) (by unfold aI at ha;omega)
  obtain⟨j,hj,ej,_⟩:=ck (p:=fun x:aH=>x.1==b) (l:=t) (by unfold aI at hb;omega)
  have ei:aI t a=(i:Int):=ei
  have ej:aI t b=(j:Int):=ej
  unfold sB at hT hT2 ⊢
  rw[ei,ej] at hT hT2 ⊢
  simp only[Int.toNat_natCast] at hT hT2 ⊢
  rw[decide_eq_true (show(i:Int)≥0 by omega),decide_eq_true (show(j:Int)≥0 by omega),decide_eq_false (show ¬(i:Int)<0 by omega),decide_eq_false (show ¬(j:Int)<0 by omega)]
  simp only[Bool.not_true,cond_false,Bool.true_and]
  by_cases sy:i=j
  ·subst sy;simp
  have e1:((i:Int)==(j:Int))=false:=by simpa using fun e=>sy (by omega)
  have e2:((i:Int) != (j:Int))=true:=by simp only[bne,e1];rfl
  rw[e1,e2]
  cases jn d 1 2 with
  |false=>rfl
  |true=>
  cases jn p 0 1000 with
  |false=>rfl
  |true=>
  cases jn q 0 1000 with
  |false=>rfl
  |true=>
  have li:=(hm _ (List.getElem_mem hi)).1
  have lj:=(hm _ (List.getElem_mem hj)).1
  have gi:t.getD i aC=t[i]:=ax _ _ hi _
  have gj:t.getD j aC=t[j]:=ax _ _ hj _
  have b1:decide ((List.length (t.getD i aC).2.2.2.2.2+List.length [b])*1≤4398046511104)=true:=by rw[gi];exact decide_eq_true (by have:t[i].2.2.2.2.2.length≤1048700:=li;simp;omega)
  have b2:decide ((List.length (t.getD j aC).2.2.2.2.2+List.length [a])*1≤4398046511104)=true:=by rw[gj];exact decide_eq_true (by have:t[j].2.2.2.2.2.length≤1048700:=lj;simp;omega)
  simp only[Gt sy,List.length_set,aG hi,aG hj,cond_true,cond_false,Bool.not_true,b1,b2,Nat.beq_refl,share,W2,yL,Pe sy hi,Pf hj,Pg sy,Ph,Bool.true_and]
  have hW:(two t i j (rQ t i b d p) (kU t j a d q)).length=t.length:=yL
  have key:DU N t kf (two t i j (rQ t i b d p) (kU t j a d q))=kf (bif aK (two t i j (rQ t i b d p) (kU t j a d q)) then two t i j (rQ t i b d p) (kU t j a d q) else t) (aK (two t i j (rQ t i b d p) (kU t j a d q))):=by
   unfold DU
   rw[lO (by omega) (fun x hx=>⟨by have:=hT2 x hx;omega,hT x hx⟩) (by omega)]
   cases aK (two t i j (rQ t i b d p) (kU t j a d q)) with
   |false=>simp only[Bool.not_false,cond_true,cond_false];rw[rP hl (fun x hx=>(hm x hx).1) hN]
   |true=>rfl
  refine Eq.trans ?_ key
  unfold rQ kU
  cases d==1<;>rfl
theorem akd {N:Nat} {t:List aH} {a b d p q:Int} {kf:List aH→Bool→Option ab} (hl:t.length≤1048700) (hm:∀ x:aH,x∈t→x.met.length≤1048700∧x.met.length+1<N) (hN:t.length<N):ZD N t a b d p q kf=kf (Gv t a b d p q) (tU t a b d p q):=by
 have hx:=aN
 have hm1:∀ x∈t,x.met.length≤maxLen∧x.met.length<N:=fun x hx=>by have:=hm x hx;omega
 unfold ZD Gv tU Gu
 rw[Kr hl (fun x hx=>(hm x hx).1) hN,lB (by omega) hN,lB (by omega) hN,mU (by omega) hm1 hN]
 simp only[oM]
 cases aK t with
 |false=>rfl
 |true=>
  by_cases ha:aI t a≥0
  rotate_left
  ·rw[decide_eq_true (show aI t a<0 by omega),decide_eq_false ha];rfl
  by_cases hb:aI t b≥0
  rotate_left
  ·rw[decide_eq_false (show ¬aI t a<0 by omega),decide_eq_true ha,decide_eq_true (show aI t b<0 by omega),decide_eq_false hb];rfl
  have hT:∀ x:aH,x∈sB t a b d p q→x.met.length<N:=tV ha hb fun x hx=>(hm x hx).2
  have hT2:∀ x:aH,x∈sB t a b d p q→x.met.length<1048800:=tV ha hb fun x hx=>by have:=(hm x hx).1;omega
  obtain⟨i,hi,ei,_⟩:=ck (p:=fun x:aH=>x.1==a) (l:=t) (by unfold aI at ha;omega)
  obtain⟨j,hj,ej,_⟩:=ck (p:=fun x:aH=>x.1==b) (l:=t) (by unfold aI at hb;omega)
  have ei:aI t a=(i:Int):=ei
  have ej:aI t b=(j:Int):=ej
  unfold sB at hT hT2 ⊢
  rw[ei,ej] at hT hT2 ⊢
  simp only[Int.toNat_natCast] at hT hT2 ⊢
  rw[decide_eq_true (show(i:Int)≥0 by omega),decide_eq_true (show(j:Int)≥0 by omega),decide_eq_false (show ¬(i:Int)<0 by omega),decide_eq_false (show ¬(j:Int)<0 by omega)]
  simp only[Bool.not_true,cond_false,Bool.true_and]
  by_cases sy:i=j
  ·subst sy;simp
  have e1:((i:Int)==(j:Int))=false:=by simpa using fun e=>sy (by omega)
  have e2:((i:Int) != (j:Int))=true:=by simp only[bne,e1];rfl
  rw[e1,e2]
  cases jn d 1 2 with
  |false=>rfl
  |true=>
  cases jn p 0 1000 with
  |false=>rfl
  |true=>
  cases jn q 0 1000 with
  |false=>rfl
  |true=>
  have li:=(hm _ (List.getElem_mem hi)).1
  have lj:=(hm _ (List.getElem_mem hj)).1
  have gi:t.getD i aC=t[i]:=ax _ _ hi _
  have gj:t.getD j aC=t[j]:=ax _ _ hj _
  have b1:decide ((List.length (t.getD i aC).2.2.2.2.2+List.length [b])*1≤4398046511104)=true:=by rw[gi];exact decide_eq_true (by have:t[i].2.2.2.2.2.length≤1048700:=li;simp;omega)
  have b2:decide ((List.length (t.getD j aC).2.2.2.2.2+List.length [a])*1≤4398046511104)=true:=by rw[gj];exact decide_eq_true (by have:t[j].2.2.2.2.2.length≤1048700:=lj;simp;omega)
  have hnb:Nat.beq i j=false:=by
   cases h:Nat.beq i j with
   |false=>rfl
   |true=>exact absurd (Nat.eq_of_beq_eq_true h) sy
  have hW:(two t i j (rQ t i b d p) (kU t j a d q)).length=t.length:=yL
  have key:(Bt N (two t i j (rQ t i b d p) (kU t j a d q)) (fun(JX:Bool)=>
       bif (!JX) then
        SH N t (fun(JY:(List QT))=>
         kf JY false)
       else
        kf (two t i j (rQ t i b d p) (kU t j a d q)) true))=kf (bif aK (two t i j (rQ t i b d p) (kU t j a d q)) then two t i j (rQ t i b d p) (kU t j a d q) else t) (aK (two t i j (rQ t i b d p) (kU t j a d q))):=by
   rw[mU (by omega) (fun x hx=>⟨by have:=hT2 x hx;omega,hT x hx⟩) (by omega)]
   cases aK (two t i j (rQ t i b d p) (kU t j a d q)) with
   |false=>simp only[Bool.not_false,cond_true,cond_false];rw[Kr hl (fun x hx=>(hm x hx).1) hN]
   |true=>rfl
  refine Eq.trans ?_ key
  simp only[JW,Int.toNat_natCast,hnb,Bool.not_false,Bool.and_true,Gt sy,List.length_set,aG hi,aG hj,cond_true,cond_false,Bool.not_true,b1,b2,Nat.beq_refl,share,W2,yL,Pe sy hi,Pf hj,Pg sy,Ph,Bool.true_and]
  unfold rQ kU
  cases d==1<;>rfl
end Go.Pv.R
namespace Go.Pv
set_option linter.unusedVariables false
theorem IQ {α β:Type} {f:α→β} {p:β→Bool}:∀ (l:List α) (i:Nat),jk p (l.map f) i=jk (fun x=>p (f x)) l i
 |[],_=>rfl
 |x::r,i=>by
  simp only[List.map_cons,jk,IQ r]
theorem vD {α β:Type} {c:Nat→α→Bool} {f:Nat→α→β}:∀ (l:List α) (i:Nat),(ir c f l i).length=0→∀ (j:Nat) (h:j<l.length),c (i+j) l[j]=false
 |[],i,_,j,h=>by simp at h
 |x::r,i,hl,j,h=>by
  simp only[ir] at hl
  cases hc:c i x with
  |true=>rw[hc] at hl;simp at hl
  |false=>
   rw[hc,cond_false] at hl
   cases j with
   |zero=>exact hc
   |succ j=>have:=vD r (i+1) hl j (by simpa using h);rw[show i+(j+1)=i+1+j by omega];exact this
end Go.Pv
namespace Go.Pv.R
set_option linter.unusedVariables false
set_option linter.unusedSimpArgs false
theorem aaB {l m:List bD} {id:Int} (h:l.map (fun x:bD=>x.1)=m.map fun x:bD=>x.1):dd l id=dd m id:=by
 unfold dd gu
 have e:∀ l:List bD,jk (fun x:bD=>x.1==id) l 0=jk (fun y:Int=>y==id) (l.map fun x:bD=>x.1) 0:=fun l=>(IQ (f:=fun x:bD=>x.1) (p:=fun y:Int=>y==id) l 0).symm
 rw[e l,e m,h]
theorem ake {s:List Int} {a b:Int} (h:DI s):eF (mC (s++[a,b]))=mv (mv s a) b:=by
 obtain⟨h1,h2⟩:=HP (mC (s++[a,b])) (aes _)
 refine WG h1 (tO (tO h)) fun x=>?_
 rw[h2,aau,yD,yD]
 simp only[List.mem_append,List.mem_cons,List.not_mem_nil,or_false]
 constructor
 ·rintro(h |h |h)<;>simp[h]
 ·rintro(h |h |h)<;>simp[h]
theorem wK {t:List aH} {a b d p q:Int} (h:tU t a b d p q=true):aI t a≥0∧aI t b≥0:=by
 unfold tU Gu at h
 simp only[Bool.and_eq_true,decide_eq_true_eq] at h
 exact⟨h.1.2.1,h.1.2.2.1⟩
theorem aeG {t:List aH} {a b d p q:Int}:(Gv t a b d p q).length=t.length:=by
 unfold Gv
 cases tU t a b d p q with
 |false=>rfl
 |true=>exact yL
theorem aeH {t:List aH} {a b d p q:Int} {M:Nat} (h:∀ x:aH,x∈t→x.met.length≤M):∀ x:aH,x∈Gv t a b d p q→x.met.length≤M+1:=by
 intro x hx
 unfold Gv at hx
 cases hb:tU t a b d p q with
 |false=>rw[hb,cond_false] at hx;have:=h x hx;omega
 |true=>
  rw[hb,cond_true] at hx
  have:=tV (N:=M+2) (wK hb).1 (wK hb).2 (fun x hx=>by have:=h x hx;omega) x hx
  omega
def aeI (js:List bD) (k:Nat) (a b:Int):List bD:=js.set k ((js.getD k cY).1,((js.getD k cY).2.1,mv (mv (js.getD k cY).2.2 a) b))
theorem aeJ {js:List bD} {k:Nat} {a b:Int} (hk:k<js.length):(aeI js k a b).map (fun x:bD=>x.1)=js.map fun x:bD=>x.1:=by
 unfold aeI
 rw[List.map_set]
 apply List.ext_getElem (by simp)
 intro i h1 h2
 rw[List.getElem_set]
 split
 ·rename_i e
  subst e
  rw[ax _ _ hk]
  simp
 ·rfl
theorem aeK {js:List bD} {k:Nat} {a b:Int} {M:Nat} (hk:k<js.length) (h:∀ x:bD,x∈js→DI x.2.2∧x.2.2.length≤M):∀ x:bD,x∈aeI js k a b→DI x.2.2∧x.2.2.length≤M+2:=by
 intro x hx
 unfold aeI at hx
 rcases List.mem_or_eq_of_mem_set hx with hx |rfl
 ·have:=h x hx;exact⟨this.1,by omega⟩
 ·have:=h (js.getD k cY) (by rw[ax _ _ hk];exact List.getElem_mem hk)
  have l1:=yE (js.getD k cY).2.2 a
  have l2:=yE (mv (js.getD k cY).2.2 a) b
  refine⟨tO (tO this.1),?_⟩
  show(mv (mv (js.getD k cY).2.2 a) b).length≤M+2
  omega
def p8 (c:aP) (i:Nat):eN:=c.2.2.2.2.1.getD i gU
def ff (c:aP) (i:Nat):Int:=c.2.2.2.1.getD i 0
def vE (c:aP) (i:Nat) (x:cS) (s:aP):Bool:=tU s.1 x.1 x.2 (ofM (p8 c i)) (p8 c i).2.1 (p8 c i).2.2
def tW (c:aP) (i:Nat) (x:cS) (s:aP):aP:=(Gv s.1 x.1 x.2 (ofM (p8 c i)) (p8 c i).2.1 (p8 c i).2.2,(aeI s.2.1 (dd s.2.1 (ff c i)).toNat x.1 x.2,s.2.2))
def cV (c:aP):List cS→Nat→aP→Bool→aP×Bool
 |[],_,s,ok=>(s,ok)
 |x::r,i,s,ok=>cV c r (i+1) (tW c i x s) (ok&&vE c i x s)
structure mX (c:aP):Prop where
 t10:c.1.length≤10
 tm:∀ x:aH,x∈c.1→x.met.length≤20
 W3:c.2.1.length≤10
 js:∀ x:bD,x∈c.2.1→DI x.2.2∧x.2.2.length≤99
 r10:c.2.2.1.length≤10
 sl:c.2.2.2.1.length=c.2.2.1.length
 bl:c.2.2.2.2.1.length=c.2.2.1.length
 sf:∀ i,i<c.2.2.1.length→dd c.2.1 (ff c i)≥0
 bb:∀ i,i<c.2.2.1.length→cC (p8 c i)=true
structure eH (c:aP) (i:Nat) (s:aP):Prop where
 tl:s.1.length=c.1.length
 tm:∀ x:aH,x∈s.1→x.met.length≤20+i
 ji:s.2.1.map (fun x:bD=>x.1)=c.2.1.map fun x:bD=>x.1
 js:∀ x:bD,x∈s.2.1→DI x.2.2∧x.2.2.length≤99+2*i
 re:s.2.2=c.2.2
theorem eH.asg {c s:aP} {i:Nat} (h:eH c i s):s.2.1.length=c.2.1.length:=by
 have:=congrArg List.length h.ji
 simpa using this
theorem eH.fjd {c s:aP} {i:Nat} (h:eH c i s) (id:Int):dd s.2.1 id=dd c.2.1 id:=aaB h.ji
theorem wL {c s:aP} {i:Nat} {x:cS} (hc:mX c) (hi:i<c.2.2.1.length) (h:eH c i s):eH c (i+1) (tW c i x s):=by
 have hf:=hc.sf i hi
 rw[←h.fjd] at hf
 have hk:=(tK hf).2
 exact⟨by rw[←h.tl];exact aeG,fun y hy=>by have:=aeH h.tm y hy;omega,by rw[←h.ji];exact aeJ hk,fun y hy=>by have:=aeK hk h.js y hy;exact⟨this.1,by omega⟩,h.re⟩
theorem wM {c:aP} (hc:mX c):∀ (r:List cS) (i:Nat) (s:aP) (ok:Bool),i+r.length=c.2.2.1.length→eH c i s→eH c c.2.2.1.length (cV c r i s ok).1
 |[],i,s,ok,h,hs=>by
  simp at h
  subst h
  exact hs
 |x::r,i,s,ok,h,hs=>by
  simp only[List.length_cons] at h
  exact wM hc r (i+1) _ _ (by omega) (wL hc (by omega) hs)
theorem rR {c:aP}:∀ (r:List cS) (i:Nat) (s:aP),(cV c r i s false).2=false
 |[],i,s=>rfl
 |x::r,i,s=>by
  unfold cV
  rw[Bool.false_and]
  exact rR r (i+1) _
theorem sr {N:Nat} {c:aP} {k:aP→Bool→Option ab} {body:Nat→cS→aP→Bool→(aP→Bool→Option ab)→Option ab}
  (hb:∀ (i:Nat) (x:cS) (s:aP) (ok:Bool) (next:aP→Bool→Option ab),i<c.2.2.1.length→eH c i s→body i x s ok next=next (tW c i x s) (ok&&vE c i x s)) (hc:mX c):∀ (r:List cS) (i:Nat) (s:aP) (ok:Bool),i+r.length=c.2.2.1.length→eH c i s→Zr body k r i s ok=k (cV c r i s ok).1 (cV c r i s ok).2
 |[],i,s,ok,h,hs=>rfl
 |x::r,i,s,ok,h,hs=>by
  simp only[List.length_cons] at h
  simp only[Zr]
  rw[hb i x s ok _ (by omega) hs]
  exact sr (N:=N) hb hc r (i+1) _ _ (by omega) (wL hc (by omega) hs)
theorem su {N:Nat} {c:aP} {k:aP→Option ab} {no:Option ab} {body:Nat→cS→aP→(aP→Option ab)→Option ab}
  (hb:∀ (i:Nat) (x:cS) (s:aP) (next:aP→Option ab),i<c.2.2.1.length→eH c i s→body i x s next=bif vE c i x s then next (tW c i x s) else no) (hc:mX c):∀ (r:List cS) (i:Nat) (s:aP),i+r.length=c.2.2.1.length→eH c i s→c6 body k r i s=bif (cV c r i s true).2 then k (cV c r i s true).1 else no
 |[],i,s,h,hs=>rfl
 |x::r,i,s,h,hs=>by
  simp only[List.length_cons] at h
  simp only[c6]
  rw[hb i x s _ (by omega) hs]
  unfold cV
  rw[Bool.true_and]
  cases vE c i x s with
  |false=>rw[rR];rfl
  |true=>exact su (N:=N) hb hc r (i+1) _ (by omega) (wL hc (by omega) hs)
theorem DK {N:Nat} {c s:aP} {i:Nat} {x:cS} {next:aP→Bool→Option ab} {ok:Bool} (hc:mX c) (axq:200<N) (hi:i<c.2.2.1.length) (h:eH c i s):
  (bif (bC (i:Int) (List.length c.2.2.2.2.1)) then
     ZL N [(List.getD c.2.2.2.2.1 (Int.toNat (i:Int)) gU)] (fun(FY:Int)=>
      ZM N s.1 x.1 x.2 FY (List.getD c.2.2.2.2.1 (Int.toNat (i:Int)) gU).2.1 (List.getD c.2.2.2.2.1 (Int.toNat (i:Int)) gU).2.2 (fun(tH:(List QT)) (qN:Bool)=>
       bif ok then
        bif (bC (i:Int) (List.length c.2.2.2.1)) then
         FT N s.2.1 (List.getD c.2.2.2.1 (Int.toNat (i:Int)) (0:Int)) (fun(gn:Int)=>
          bif (bC gn (List.length s.2.1)) then
           wE N (List.getD s.2.1 (Int.toNat gn) cY).2.2 x.1 (fun(FZ:(List Int))=>
            wE N FZ x.2 (fun(yx:(List Int))=>
             bif (bC gn (List.length s.2.1)) then
              next (tH,((List.set s.2.1 (Int.toNat gn) ((List.getD s.2.1 (Int.toNat gn) cY).1,((List.getD s.2.1 (Int.toNat gn) cY).2.1,yx))),s.2.2)) qN
             else none))
          else none)
        else none
       else
        bif (bC (i:Int) (List.length c.2.2.2.1)) then
         FT N s.2.1 (List.getD c.2.2.2.1 (Int.toNat (i:Int)) (0:Int)) (fun(gp:Int)=>
          bif (bC gp (List.length s.2.1)) then
           wE N (List.getD s.2.1 (Int.toNat gp) cY).2.2 x.1 (fun(wz:(List Int))=>
            wE N wz x.2 (fun(yy:(List Int))=>
             bif (bC gp (List.length s.2.1)) then
              next (tH,((List.set s.2.1 (Int.toNat gp) ((List.getD s.2.1 (Int.toNat gp) cY).1,((List.getD s.2.1 (Int.toNat gp) cY).2.1,yy))),s.2.2)) false
             else none))
          else none)
        else none))
    else none)=next (tW c i x s) (ok&&vE c i x s):=by
 have hx:=aN
 have r10:=hc.r10
 have t10:=hc.t10
 have W3:=hc.W3
 have tl:=h.tl
 have jl:=h.asg
 have hf:=hc.sf i hi
 rw[←h.fjd] at hf
 obtain⟨f1,f2⟩:=tK hf
 have eb:List.getD c.2.2.2.2.1 (Int.toNat (i:Int)) gU=p8 c i:=rfl
 have es:List.getD c.2.2.2.1 (Int.toNat (i:Int)) (0:Int)=ff c i:=rfl
 have hj:=h.js (List.getD s.2.1 (dd s.2.1 (ff c i)).toNat cY) (by rw[ax _ _ f2];exact List.getElem_mem f2)
 have l1:=yE (List.getD s.2.1 (dd s.2.1 (ff c i)).toNat cY).2.2 x.1
 rw[eb,es,aG (show i<c.2.2.2.2.1.length by rw[hc.bl];exact hi),aG (show i<c.2.2.2.1.length by rw[hc.sl];exact hi),cond_true,aeE (by omega) (hc.bb i hi),akc (by omega) (fun y hy=>by have:=h.tm y hy;omega) (by omega)]
 simp only[cond_true,WA (N:=N) (l:=s.2.1) (id:=ff c i) (by omega) (by omega),f1,WJ (N:=N) (l:=(List.getD s.2.1 (dd s.2.1 (ff c i)).toNat cY).2.2) (n:=x.1) (by omega) (by omega),WJ (N:=N) (l:=mv (List.getD s.2.1 (dd s.2.1 (ff c i)).toNat cY).2.2 x.1) (n:=x.2) (by omega) (by omega)]
 cases ok with
 |true=>rfl
 |false=>rfl
theorem DL {N:Nat} {c s:aP} {i:Nat} {x:cS} {next:aP→Option ab} {kf:aP→Bool→Option ab} (ho:bV c N) (hc:mX c) (axq:200<N) (hi:i<c.2.2.1.length) (h:eH c i s):
  (bif (bC (i:Int) (List.length c.2.2.2.2.1)) then
     ZC N [(List.getD c.2.2.2.2.1 (Int.toNat (i:Int)) gU)] (fun(FJ:Int)=>
      ZD N s.1 x.1 x.2 FJ (List.getD c.2.2.2.2.1 (Int.toNat (i:Int)) gU).2.1 (List.getD c.2.2.2.2.1 (Int.toNat (i:Int)) gU).2.2 (fun(FK:(List QT)) (FL:Bool)=>
       bif (!FL) then
        JG N c (fun(FM:QC)=>
         kf FM false)
       else
        bif (bC (i:Int) (List.length c.2.2.2.1)) then
         SX N s.2.1 (List.getD c.2.2.2.1 (Int.toNat (i:Int)) (0:Int)) (fun(dF:Int)=>
          bif (bC dF (List.length s.2.1)) then
           bif (decide ((List.length (List.getD s.2.1 (Int.toNat dF) cY).2.2+List.length [x.1,x.2])*1≤4398046511104)) then
            ZE N ((List.getD s.2.1 (Int.toNat dF) cY).2.2++[x.1,x.2]) (fun(FN:(List Int))=>
             adM N FN (fun(FP:(List Int))=>
              bif (bC dF (List.length s.2.1)) then
               bif (Nat.beq (Int.toNat dF) (Int.toNat dF)) then
                next (FK,((List.set s.2.1 (Int.toNat dF) ((List.getD s.2.1 (Int.toNat dF) cY).1,((List.getD s.2.1 (Int.toNat dF) cY).2.1,FP))),s.2.2))
               else none
              else none))
           else none
          else none)
        else none))
    else none)=bif vE c i x s then next (tW c i x s) else kf c false:=by
 have hx:=aN
 have r10:=hc.r10
 have t10:=hc.t10
 have W3:=hc.W3
 have tl:=h.tl
 have jl:=h.asg
 have hf:=hc.sf i hi
 rw[←h.fjd] at hf
 obtain⟨f1,f2⟩:=tK hf
 have eb:List.getD c.2.2.2.2.1 (Int.toNat (i:Int)) gU=p8 c i:=rfl
 have es:List.getD c.2.2.2.1 (Int.toNat (i:Int)) (0:Int)=ff c i:=rfl
 have hj:=h.js (List.getD s.2.1 (dd s.2.1 (ff c i)).toNat cY) (by rw[ax _ _ f2];exact List.getElem_mem f2)
 have ed:decide ((List.length (List.getD s.2.1 (dd s.2.1 (ff c i)).toNat cY).2.2+List.length [x.1,x.2])*1≤4398046511104)=true:=decide_eq_true (by simp only[List.length_cons,List.length_nil];omega)
 rw[eb,es,aG (show i<c.2.2.2.2.1.length by rw[hc.bl];exact hi),aG (show i<c.2.2.2.1.length by rw[hc.sl];exact hi),cond_true,aeF (by omega) (hc.bb i hi),akd (by omega) (fun y hy=>by have:=h.tm y hy;omega) (by omega)]
 simp only[cond_true,o9 ho,WB (N:=N) (l:=s.2.1) (id:=ff c i) (by omega) (by omega),f1,ed,Nat.beq_refl]
 rw[ajV (by simp only[List.length_append,List.length_cons,List.length_nil];omega),ajW,ake hj.1]
 show(bif !vE c i x s then kf c false else next (tW c i x s))=_
 cases vE c i x s<;>rfl
end Go.Pv.R
namespace Go.Pv.R
set_option linter.unusedVariables false
set_option linter.unusedSimpArgs false
theorem Pj {s:List Int} (h:OW s=true):DI s∧s.length≤99:=by
 unfold OW at h
 rw[gg] at h
 have step:∀ (i:Nat) (hi:i<s.length),(1≤s[i]∧s[i]≤99)∧(0<i→s.getD (i - 1) 0<s[i]):=fun i hi=>by
  have:=h i hi
  rw[Nat.zero_add] at this
  simp only[Bool.and_eq_true,Bool.or_eq_true,decide_eq_true_eq,uH] at this
  exact⟨this.1,fun h0=>by omega⟩
 have mono:∀ (i:Nat) (hi:i<s.length) (j:Nat) (hj:j<i),s[j]'(by omega)<s[i]:=by
  intro i
  induction i with
  |zero=>intro hi j hj;omega
  |succ i ih=>
   intro hi j hj
   have h1:=(step (i+1) hi).2 (by omega)
   rw[Nat.add_sub_cancel,ax _ _ (show i<s.length by omega)] at h1
   rcases Nat.lt_or_eq_of_le (Nat.le_of_lt_succ hj) with h2 |rfl
   ·have:=ih (by omega) j h2;omega
   ·exact h1
 have ha:DI s:=List.pairwise_iff_getElem.2 fun j i hj hi mn=>mono i hi j mn
 refine⟨ha,?_⟩
 have hn:s.Nodup:=ha.imp fun h=>by omega
 have:=p7 s ((List.range 100).map fun n:Nat=>(n:Int)) hn fun x hx=>by
  obtain⟨i,hi,rfl⟩:=List.mem_iff_getElem.1 hx
  have:=(step i hi).1
  exact List.mem_map.2 ⟨s[i].toNat,by rw[List.mem_range];omega,by omega⟩
 have h0:(0:Int)∉s:=fun hc=>by
  obtain⟨i,hi,e⟩:=List.mem_iff_getElem.1 hc
  have:=(step i hi).1
  omega
 have:=p7 (0::s) ((List.range 100).map fun n:Nat=>(n:Int)) (List.nodup_cons.2 ⟨h0,hn⟩) fun x hx=>by
  rcases List.mem_cons.1 hx with rfl |hx
  ·exact List.mem_map.2 ⟨0,by simp,rfl⟩
  ·obtain⟨i,hi,rfl⟩:=List.mem_iff_getElem.1 hx
   have:=(step i hi).1
   exact List.mem_map.2 ⟨s[i].toNat,by rw[List.mem_range];omega,by omega⟩
 simp only[List.length_cons,List.length_map,List.length_range] at this
 omega
theorem W4 {c:aP} (hc:cw c=true) (hr:c.2.2.1.length≠0) (hw:(bz c).length=0):mX c:=by
 obtain⟨l1,l2⟩:=oN hc
 unfold cw at hc
 simp only[Bool.and_eq_true,Bool.or_eq_true,decide_eq_true_eq] at hc
 obtain⟨ht,hj,_,_,_,hs,hb,_⟩:=hc
 have hs:gv c.1 c.2.2.1=true∧eD c.1 c.2.1 c.2.2.1 c.2.2.2.1=true:=hs.resolve_left hr
 obtain⟨_,hs⟩:=hs
 unfold eD at hs
 simp only[Bool.and_eq_true,decide_eq_true_eq] at hs
 obtain⟨_,_,hs⟩:=hs
 rw[gg] at hs
 unfold aK at ht
 simp only[Bool.and_eq_true,decide_eq_true_eq] at ht
 obtain⟨t10,htp,_⟩:=ht
 unfold cz at hj
 simp only[Bool.and_eq_true,decide_eq_true_eq] at hj
 obtain⟨W3,hjp⟩:=hj
 rw[gg] at htp hjp hb
 have sP:∀ i,i<c.2.2.1.length→dd c.2.1 (ff c i)≥0∧mV (c.2.2.2.1.take i) (ff c i)=false:=fun i hi=>by
  have:=hs i hi
  rw[Nat.zero_add] at this
  unfold tL at this
  simp only[Bool.and_eq_true,decide_eq_true_eq,Bool.not_eq_true'] at this
  exact⟨this.1,this.2.1⟩
 have hn:c.2.2.2.1.Nodup:=List.pairwise_iff_getElem.2 fun i j hi hj sy e=>by
  have h1:=(sP j (by omega)).2
  have h2:mV (c.2.2.2.1.take j) (ff c j)=true:=by
   rw[l7]
   unfold ff
   rw[ax _ _ hj,←e]
   exact List.mem_iff_getElem.2 ⟨i,by rw[List.length_take];omega,by rw[List.getElem_take]⟩
  rw[h1] at h2
  cases h2
 have hle:=p7 c.2.2.2.1 (c.2.1.map fun x:bD=>x.1) hn fun x hx=>by
  obtain⟨i,hi,rfl⟩:=List.mem_iff_getElem.1 hx
  have h1:=(sP i (by omega)).1
  unfold ff at h1
  rw[ax _ _ hi] at h1
  obtain⟨k,hk,e,h2,_⟩:=ck (p:=fun x:bD=>x.1==c.2.2.2.1[i]) (l:=c.2.1) (by unfold dd at h1;omega)
  exact List.mem_map.2 ⟨c.2.1[k],List.getElem_mem hk,by simpa using h2⟩
 rw[List.length_map] at hle
 refine⟨t10,fun x hx=>?_,W3,fun x hx=>?_,by omega,l1,l2,fun i hi=>(sP i hi).1,fun i hi=>?_⟩
 ·obtain⟨i,hi,rfl⟩:=List.mem_iff_getElem.1 hx
  have:=htp i hi
  unfold jY at this
  simp only[Bool.and_eq_true,decide_eq_true_eq] at this
  exact this.2.2.2.2.2.1
 ·obtain⟨i,hi,rfl⟩:=List.mem_iff_getElem.1 hx
  have:=hjp i hi
  unfold o7 at this
  simp only[Bool.and_eq_true,decide_eq_true_eq] at this
  exact Pj this.2.2.2
 ·have nV:i<c.2.2.2.2.1.length:=by omega
  have h1:=vD c.2.2.2.2.1 0 hw i nV
  have h2:=hb i nV
  rw[Nat.zero_add] at h2
  unfold kR at h2
  simp only[h1,Bool.false_or,Bool.and_eq_true] at h2
  unfold p8
  rw[ax _ _ nV]
  exact h2.1
def Gw (c s:aP):aP:=(s.1,(s.2.1,([],([],([],(s.2.2.2.2.2.1,IntKind.wrap .i64 (c.2.2.2.2.2.2+(List.length c.2.2.1:Int))))))))
def l9 (c:aP):Bool:=cw c&&(decide (c.2.2.1.length≠0)&&decide ((bz c).length=0))
def eY (c:aP):aP×Bool:=bif l9 c&&(cV c c.2.2.1 0 c true).2 then(eG c (Gw c (cV c c.2.2.1 0 c true).1) 5 0,ef c (Gw c (cV c c.2.2.1 0 c true).1) 5 0) else(c,false)
theorem uN {c:aP} (hc:mX c):eH c 0 c:=⟨rfl,fun x hx=>by have:=hc.tm x hx;omega,rfl,fun x hx=>by have:=hc.js x hx;exact⟨this.1,by omega⟩,rfl⟩
theorem W5 {c s:aP} {N:Nat} (h:bV c N) (hc:mX c) (hs:eH c c.2.2.1.length s) (hN:200<N):bV (Gw c s) N:=by
 have hx:=aN
 have r10:=hc.r10
 have t10:=hc.t10
 have W3:=hc.W3
 have tl:=hs.tl
 have jl:=hs.asg
 have ht:∀ x:aH,x∈s.1→x.met.length≤40:=fun x hx=>by have:=hs.tm x hx;omega
 have hj:∀ x:bD,x∈s.2.1→x.2.2.length≤140:=fun x hx=>by have:=(hs.js x hx).2;omega
 have hre:s.2.2.2.2.2.1=c.2.2.2.2.2.1:=by rw[hs.re]
 exact⟨by show s.1.length≤_;omega,fun x hx=>⟨by have:=ht x hx;omega,by have:=ht x hx;omega⟩,by show s.1.length<_;omega,by show s.2.1.length≤_;omega,fun x hx=>⟨by have:=hj x hx;omega,by have:=hj x hx;omega⟩,by show s.2.1.length<_;omega,by show 0≤_;omega,by show 2*0<_;omega,by show 0≤_;omega,by show 0<_;omega,by show 0≤_;omega,by show 0<_;omega,by show s.2.2.2.2.2.1.length≤_;rw[hre];exact h.ml,by show s.2.2.2.2.2.1.length<_;rw[hre];exact h.mN,h.n8,by show s.1.length≤_;omega,fun x hx=>by have:=ht x hx;omega,by show s.2.1.length≤_;omega,fun x hx=>by have:=hj x hx;omega⟩
theorem D8 (n:Nat):decide ((n:Int)>(0:Int))=!decide (n=0):=by
 by_cases h:n=0
 ·rw[decide_eq_false (by omega),decide_eq_true h];rfl
 ·rw[decide_eq_true (by omega),decide_eq_false h];rfl
theorem ash {N:Nat} {c:aP} {kf:aP→Bool→Option ab} (h:bV c N) (hN:200<N) (hl:c.2.2.2.2.2.1.length+1<N):S27 N c kf=kf (eY c).1 (eY c).2:=by
 have hx:=aN
 have hr:=h.rl
 have hr2:=h.rN
 unfold S27 eY l9
 rw[tM h,D3 h]
 cases hc:cw c with
 |false=>rfl
 |true=>
  simp only[Bool.not_true,cond_false,Bool.true_and]
  unfold S94
  rw[D8]
  by_cases cQ:c.2.2.1.length=0
  ·rw[decide_eq_true cQ,decide_eq_false (fun e=>e cQ)];rfl
  ·rw[decide_eq_false cQ,decide_eq_true cQ]
   simp only[Bool.not_true,Bool.not_false,cond_false,Bool.true_and]
   rw[yC h,D8]
   by_cases hw:(bz c).length=0
   rotate_left
   ·rw[decide_eq_false hw];rfl
   ·rw[decide_eq_true hw]
    have ho:=W4 hc cQ hw
    have hi:=wM ho c.2.2.1 0 c true (by omega) (uN ho)
    simp only[Bool.not_true,cond_false,Bool.true_and]
    rw[aek (by omega) (by omega),sr (N:=N) (c:=c) (fun i x s ok next hi hs=>DK ho hN hi hs) ho c.2.2.1 0 c true (by omega) (uN ho)]
    refine(wG (out:=Gw c (cV c c.2.2.1 0 c true).1) h (fun _=>W5 h ho hi hN) hN hl).trans ?_
    cases (cV c c.2.2.1 0 c true).2<;>rfl
theorem asi {N:Nat} {c:aP} {kf:aP→Bool→Option ab} (h:bV c N) (hN:200<N) (hl:c.2.2.2.2.2.1.length+1<N):I28 N c kf=kf (eY c).1 (eY c).2:=by
 have hx:=aN
 have hr:=h.rl
 have hr2:=h.rN
 unfold I28 eY l9
 rw[o9 h,nL h]
 cases hc:cw c with
 |false=>rfl
 |true=>
  simp only[Bool.not_true,cond_false,Bool.true_and]
  unfold Om
  rw[D8]
  by_cases cQ:c.2.2.1.length=0
  ·rw[decide_eq_true cQ,decide_eq_false (fun e=>e cQ)];rfl
  ·rw[decide_eq_false cQ,decide_eq_true cQ]
   simp only[Bool.not_true,Bool.not_false,cond_false,Bool.true_and]
   rw[Kn h,D8]
   by_cases hw:(bz c).length=0
   rotate_left
   ·rw[decide_eq_false hw]
    rfl
   ·rw[decide_eq_true hw]
    have ho:=W4 hc cQ hw
    have hi:=wM ho c.2.2.1 0 c true (by omega) (uN ho)
    simp only[Bool.not_true,cond_false,Bool.true_and]
    rw[o9 h,aei (by omega) (by omega),su (N:=N) (c:=c) (no:=kf c false) (fun i x s next hi hs=>DL h ho hN hi hs) ho c.2.2.1 0 c (by omega) (uN ho)]
    cases jV:(cV c c.2.2.1 0 c true).2 with
    |false=>rfl
    |true=>
     have hre:(cV c c.2.2.1 0 c true).1.2.2=c.2.2:=hi.re
     have e2:((cV c c.2.2.1 0 c true).1.1,((cV c c.2.2.1 0 c true).1.2.1,(([]:List cg),(([]:List Int),(([]:List QB),((cV c c.2.2.1 0 c true).1.2.2.2.2.2.1,(IntKind.wrap .i64 ((cV c c.2.2.1 0 c true).1.2.2.2.2.2.2+(List.length c.2.2.1:Int)))))))))=Gw c (cV c c.2.2.1 0 c true).1:=by
      unfold Gw
      rw[hre]
     simp only[cond_true]
     rw[e2]
     exact uJ (out:=Gw c (cV c c.2.2.1 0 c true).1) h (W5 h ho hi hN) (by show(cV c c.2.2.1 0 c true).1.2.2.2.2.2.1=_;rw[hre]) hN hl
end Go.Pv.R
namespace Go.Pv.R
set_option linter.unusedVariables false
set_option linter.unusedSimpArgs false
structure Small (c:aP):Prop where
 t10:c.1.length≤10
 tm:∀ x:aH,x∈c.1→x.met.length≤20
 W3:c.2.1.length≤10
 js:∀ x:bD,x∈c.2.1→x.2.2.length≤99
 r10:c.2.2.1.length≤10
 s10:c.2.2.2.1.length≤10
 b10:c.2.2.2.2.1.length≤10
 asj:c.2.2.2.2.2.1.length≤200
theorem eI {c:aP} (hc:cw c=true):Small c:=by
 obtain⟨l1,l2⟩:=oN hc
 unfold cw at hc
 simp only[Bool.and_eq_true,Bool.or_eq_true,decide_eq_true_eq] at hc
 obtain⟨ht,hj,hm,_,_,hs,hb,_⟩:=hc
 unfold fF at hm
 simp only[Bool.and_eq_true,decide_eq_true_eq] at hm
 unfold aK at ht
 simp only[Bool.and_eq_true,decide_eq_true_eq] at ht
 obtain⟨t10,htp,_⟩:=ht
 unfold cz at hj
 simp only[Bool.and_eq_true,decide_eq_true_eq] at hj
 obtain⟨W3,hjp⟩:=hj
 rw[gg] at htp hjp
 have r10:c.2.2.1.length≤10:=by
  rcases hs with hs |hs
  ·omega
  ·have hs:eD c.1 c.2.1 c.2.2.1 c.2.2.2.1=true:=hs.2
   unfold eD at hs
   simp only[Bool.and_eq_true,decide_eq_true_eq] at hs
   obtain⟨_,_,hs⟩:=hs
   rw[gg] at hs
   have sP:∀ i,i<c.2.2.1.length→dd c.2.1 (ff c i)≥0∧mV (c.2.2.2.1.take i) (ff c i)=false:=fun i hi=>by
    have:=hs i hi
    rw[Nat.zero_add] at this
    unfold tL at this
    simp only[Bool.and_eq_true,decide_eq_true_eq,Bool.not_eq_true'] at this
    exact⟨this.1,this.2.1⟩
   have hn:c.2.2.2.1.Nodup:=List.pairwise_iff_getElem.2 fun i j hi hj sy e=>by
    have h1:=(sP j (by omega)).2
    have h2:mV (c.2.2.2.1.take j) (ff c j)=true:=by
     rw[l7]
     unfold ff
     rw[ax _ _ hj,←e]
     exact List.mem_iff_getElem.2 ⟨i,by rw[List.length_take];omega,by rw[List.getElem_take]⟩
    rw[h1] at h2
    cases h2
   have hle:=p7 c.2.2.2.1 (c.2.1.map fun x:bD=>x.1) hn fun x hx=>by
    obtain⟨i,hi,rfl⟩:=List.mem_iff_getElem.1 hx
    have h1:=(sP i (by omega)).1
    unfold ff at h1
    rw[ax _ _ hi] at h1
    obtain⟨k,hk,e,h2,_⟩:=ck (p:=fun x:bD=>x.1==c.2.2.2.1[i]) (l:=c.2.1) (by unfold dd at h1;omega)
    exact List.mem_map.2 ⟨c.2.1[k],List.getElem_mem hk,by simpa using h2⟩
   rw[List.length_map] at hle
   omega
 refine⟨t10,fun x hx=>?_,W3,fun x hx=>?_,r10,by omega,by omega,hm.1⟩
 ·obtain⟨i,hi,rfl⟩:=List.mem_iff_getElem.1 hx
  have:=htp i hi
  unfold jY at this
  simp only[Bool.and_eq_true,decide_eq_true_eq] at this
  exact this.2.2.2.2.2.1
 ·obtain⟨i,hi,rfl⟩:=List.mem_iff_getElem.1 hx
  have:=hjp i hi
  unfold o7 at this
  simp only[Bool.and_eq_true,decide_eq_true_eq] at this
  exact(Pj this.2.2.2).2
theorem Small.okC {c:aP} {N:Nat} (h:Small c) (hN:300<N):bV c N:=by
 have hx:=aN
 obtain⟨h1,h2,h3,h4,h5,h6,h7,h8⟩:=h
 exact⟨by omega,fun x hx=>by have:=h2 x hx;omega,by omega,by omega,fun x hx=>by have:=h4 x hx;omega,by omega,by omega,by omega,by omega,by omega,by omega,by omega,by omega,by omega,by omega,by omega,fun x hx=>by have:=h2 x hx;omega,by omega,fun x hx=>by have:=h4 x hx;omega⟩
structure wN (c:aP) (N:Nat):Prop where
 ok:bV c N
 ok':bV c (N - 40)
 tb:c.1.length≤1048576
 tN:c.1.length+1<N
 jb:c.2.1.length≤1048576
 jN:c.2.1.length+1<N
 mN:c.2.2.2.2.2.1.length+1<N
 N2:200<N
theorem Small.evC {c:aP} {N:Nat} (h:Small c) (hN:400<N):wN c N:=
 ⟨h.okC (by omega),h.okC (by omega),by have:=h.t10;omega,by have:=h.t10;omega,by have:=h.W3;omega,by have:=h.W3;omega,by have:=h.asj;omega,by omega⟩
def Pl (b:Bool) (c:aP) (r:aP×Bool):aP×Bool:=bif b then r else(c,false)
def lf (c out:aP) (cq fY:Int):aP×Bool:=(eG c out cq fY,ef c out cq fY)
def aY (c:aP) (e:QL):aP×Bool:=
 bif e.1==1 then Pl (decide (c.2.2.1.length=0)) c (lf c (jv c e.2.1 e.2.2.1) 1 e.2.1)
 else bif e.1==2 then lf c (je c e.2.1 e.2.2.1) 2 e.2.1
 else bif e.1==3 then cM c
 else bif e.1==4 then Pl (oO c e.2.2.2 e.2.1 e.2.2.1) c (lf c (mG c e.2.2.2 e.2.1 e.2.2.1) 4 (mF c e.2.2.2 e.2.1 e.2.2.1).1)
 else bif e.1==5 then eY c
 else bif e.1==6 then Pl (kS c e.2.1) c (lf c (jd c e.2.1) 6 e.2.1)
 else(c,false)
theorem IS {b:Bool} {c:aP} {r:aP×Bool} {k:aP→Bool→Option ab}:(bif b then k r.1 r.2 else k c false)=k (Pl b c r).1 (Pl b c r).2:=by
 unfold Pl
 cases b<;>rfl
theorem eZ {N:Nat} {c:aP} {e:QL} {kf:aP→Bool→Option ab} (h:wN c N):sn N c e kf=kf (aY c e).1 (aY c e).2:=by
 unfold sn aY
 cases e.1==1
 rotate_left
 ·exact(ajY h.ok h.tb h.tN h.N2 h.mN).trans (IS (c:=c) (r:=lf c (jv c e.2.1 e.2.2.1) 1 e.2.1) (k:=kf))
 cases e.1==2
 rotate_left
 ·exact ajZ h.ok h.jb h.jN h.N2 h.mN
 cases e.1==3
 rotate_left
 ·exact ase h.ok h.ok' h.N2 h.mN
 cases e.1==4
 rotate_left
 ·exact(ajU h.ok h.N2 h.mN).trans (IS (c:=c) (r:=lf c (mG c e.2.2.2 e.2.1 e.2.2.1) 4 (mF c e.2.2.2 e.2.1 e.2.2.1).1) (k:=kf))
 cases e.1==5
 rotate_left
 ·exact ash h.ok h.N2 h.mN
 cases e.1==6
 rotate_left
 ·exact(yG h.ok h.N2 h.mN).trans (IS (c:=c) (r:=lf c (jd c e.2.1) 6 e.2.1) (k:=kf))
 ·simp only[cond_false]
  rw[tM h.ok]
theorem dZ {N:Nat} {c:aP} {e:QL} {kf:aP→Bool→Option ab} (h:wN c N):sk N c e kf=kf (aY c e).1 (aY c e).2:=by
 unfold sk aY
 cases e.1==1
 rotate_left
 ·exact(ar' h.ok h.tb h.tN h.N2 h.mN).trans (IS (c:=c) (r:=lf c (jv c e.2.1 e.2.2.1) 1 e.2.1) (k:=kf))
 cases e.1==2
 rotate_left
 ·exact asa h.ok h.jb h.jN h.N2 h.mN
 cases e.1==3
 rotate_left
 ·exact asf h.ok h.ok' h.N2 h.mN
 cases e.1==4
 rotate_left
 ·exact(ar8 h.ok h.N2 h.mN).trans (IS (c:=c) (r:=lf c (mG c e.2.2.2 e.2.1 e.2.2.1) 4 (mF c e.2.2.2 e.2.1 e.2.2.1).1) (k:=kf))
 cases e.1==5
 rotate_left
 ·exact asi h.ok h.N2 h.mN
 cases e.1==6
 rotate_left
 ·exact(ar9 h.ok h.N2 h.mN).trans (IS (c:=c) (r:=lf c (jd c e.2.1) 6 e.2.1) (k:=kf))
 ·simp only[cond_false]
  rw[o9 h.ok]
def Kept (c:aP) (r:aP×Bool):Prop:=(r.1=c∧r.2=false)∨(cw r.1=true∧r.2=true)
theorem lE (c out:aP) (cq fY:Int):Kept c (lf c out cq fY):=by
 unfold lf Kept eG
 cases hd:ef c out cq fY with
 |false=>exact .inl ⟨rfl,rfl⟩
 |true=>
  unfold ef at hd
  simp only[Bool.and_eq_true] at hd
  exact .inr ⟨hd.2.2,rfl⟩
theorem tX {b:Bool} {c:aP} {r:aP×Bool} (h:Kept c r):Kept c (Pl b c r):=by
 unfold Pl
 cases b with
 |false=>exact .inl ⟨rfl,rfl⟩
 |true=>exact h
theorem Pm (c:aP) (e:QL):Kept c (aY c e):=by
 unfold aY
 cases e.1==1
 rotate_left
 ·exact tX (lE _ _ _ _)
 cases e.1==2
 rotate_left
 ·exact lE _ _ _ _
 cases e.1==3
 rotate_left
 ·show Kept c (cM c)
  unfold cM
  cases jR c.1 with
  |none=>exact .inl ⟨rfl,rfl⟩
  |some ps=>
   simp only[]
   cases iK c.1 c.2.1 ps with
   |none=>exact .inl ⟨rfl,rfl⟩
   |some ss=>exact tX (lE _ _ _ _)
 cases e.1==4
 rotate_left
 ·exact tX (lE _ _ _ _)
 cases e.1==5
 rotate_left
 ·exact tX (lE _ _ _ _)
 cases e.1==6
 rotate_left
 ·exact tX (lE _ _ _ _)
 ·exact .inl ⟨rfl,rfl⟩
end Go.Pv.R
namespace Go.Pv.R
set_option linter.unusedVariables false
set_option linter.unusedSimpArgs false
end Go.Pv.R
namespace Go.Pv.R
set_option linter.unusedVariables false
set_option linter.unusedSimpArgs false
end Go.Pv.R
namespace Go.Pv.R
set_option linter.unusedVariables false
set_option linter.unusedSimpArgs false
end Go.Pv.R
namespace Go.Pv.R
set_option linter.unusedVariables false
set_option linter.unusedSimpArgs false
end Go.Pv.R
namespace Go.Pv.R
set_option linter.unusedVariables false
set_option linter.unusedSimpArgs false
end Go.Pv.R
namespace Go.Pv.R
set_option linter.unusedVariables false
set_option linter.unusedSimpArgs false
end Go.Pv.R
namespace Go.Pv.R
set_option linter.unusedVariables false
set_option linter.unusedSimpArgs false
end Go.Pv.R
namespace Go.Pv.R
set_option linter.unusedVariables false
set_option linter.unusedSimpArgs false
def mY {α:Type} (g:α→Int):List α→Int
 |[]=>0
 |x::r=>g x+mY g r
theorem p9 {α:Type} (g:α→Int):∀ (a b:List α),mY g (a++b)=mY g a+mY g b
 |[],b=>by simp[mY]
 |x::a,b=>by simp only[List.cons_append,mY,p9 g a b];omega
theorem Gx {α:Type} (g:α→Int) (y z:α):∀ (l:List α) (i:Nat),i<l.length→mY g (l.set i y)=mY g l - g (l.getD i z)+g y
 |[],i,h=>by simp at h
 |x::r,0,h=>by simp only[List.set_cons_zero,mY,List.getD_cons_zero];omega
 |x::r,i+1,h=>by
  simp only[List.set_cons_succ,mY,List.getD_cons_succ]
  rw[Gx g y z r i (by simpa using h)]
  omega
def aaC (x:aH):Int:=(x.met.length:Int)
structure Fair (t:List aH):Prop where
 nd:∀ x:aH,x∈t→x.met.Nodup
 df:∀ x y:aH,x∈t→y∈t→y.1∈x.met→x.2.1≠y.2.1
 w:2*mY (fun x:aH=>x.2.2.1) t=mY aaC t
 f:2*mY (fun x:aH=>x.2.2.2.2.1) t=mY aaC t
structure asl (t:List aH) (x:aH):Prop where
 w:0≤x.2.2.1∧x.2.2.1≤x.met.length
 f:0≤x.2.2.2.2.1∧x.2.2.2.2.1≤x.met.length
 p:0≤x.2.2.2.1∧x.2.2.2.1≤100000
 m:x.met.length≤20
 s:∀ id,id∈x.met→id≠x.1∧∃ y:aH,y∈t∧y.1=id∧x.1∈y.met
theorem D9 {t:List aH} (h:aK t=true) {x:aH} (hx:x∈t):asl t x:=by
 have hm:=aN
 unfold aK at h
 simp only[Bool.and_eq_true,decide_eq_true_eq] at h
 obtain⟨_,h1,h2⟩:=h
 rw[gg] at h1 h2
 have m20:∀ y:aH,y∈t→y.met.length≤20:=fun y hy=>by
  obtain⟨i,hi,rfl⟩:=List.mem_iff_getElem.1 hy
  have:=h1 i hi
  unfold jY at this
  simp only[Bool.and_eq_true,decide_eq_true_eq] at this
  exact this.2.2.2.2.2.1
 obtain⟨i,hi,rfl⟩:=List.mem_iff_getElem.1 hx
 have a:=h1 i hi
 have b:=h2 i hi
 unfold jY at a
 simp only[Bool.and_eq_true,decide_eq_true_eq,uH] at a
 rw[List.all_eq_true] at b
 refine⟨a.2.2.1,a.2.2.2.1,a.2.2.2.2.1,a.2.2.2.2.2.1,fun id YZ=>?_⟩
 have c:=b id YZ
 unfold HO at c
 simp only[Bool.and_eq_true,Bool.not_eq_true',decide_eq_false_iff_not,beq_eq_false_iff_ne,beq_iff_eq] at c
 obtain⟨c1,c2,c3⟩:=c
 refine⟨c2,?_⟩
 obtain⟨k,hk,e,h3,_⟩:=ck (p:=fun x:aH=>x.1==id) (l:=t) (by unfold aI at c1;omega)
 have e:aI t id=(k:Int):=e
 rw[e,Int.toNat_natCast,ax _ _ hk] at c3
 rw[BC (by have:=m20 _ hx;omega),BC (by have:=m20 _ (List.getElem_mem hk);omega)] at c3
 refine⟨t[k],List.getElem_mem hk,by simpa using h3,?_⟩
 have:0<List.count id (t[i].met):=List.count_pos_iff.2 YZ
 exact List.count_pos_iff.1 (by omega)
theorem qa {t:List aH} (h:aK t=true) {x y:aH} (hx:x∈t) (hy:y∈t) (e:x.1=y.1):x=y:=by
 have hn:=l8 h
 obtain⟨i,hi,rfl⟩:=List.mem_iff_getElem.1 hx
 obtain⟨j,hj,rfl⟩:=List.mem_iff_getElem.1 hy
 have:=(List.nodup_iff_pairwise_ne.1 hn)
 by_cases sy:i=j
 ·subst sy;rfl
 ·exfalso
  have hp:=List.pairwise_iff_getElem.1 hn
  unfold er at hp
  rcases Nat.lt_or_gt_of_ne sy with cZ |cZ
  ·exact hp i j (by simpa using hi) (by simpa using hj) cZ (by simpa using e)
  ·exact hp j i (by simpa using hj) (by simpa using hi) cZ (by simpa using e.symm)
def Clean (t:List aH) (a b:Int):Prop:=a≠b∧∀ x y:aH,x∈t→y∈t→x.1=a→y.1=b→b∉x.met∧a∉y.met∧x.2.1≠y.2.1
theorem W6 {t:List aH} {a b d p q:Int} (h:aK t=true) (ha:aI t a≥0) (hb:aI t b≥0) (u7:a≠b):∃ (i j:Nat) (hi:i<t.length) (hj:j<t.length),i≠j∧t[i].1=a∧t[j].1=b∧sB t a b d p q=(t.set i (rQ t i b d p)).set j (kU t j a d q):=by
 obtain⟨i,hi,e1,h1,_⟩:=ck (p:=fun x:aH=>x.1==a) (l:=t) (by unfold aI at ha;omega)
 obtain⟨j,hj,e2,h2,_⟩:=ck (p:=fun x:aH=>x.1==b) (l:=t) (by unfold aI at hb;omega)
 have e1:aI t a=(i:Int):=e1
 have e2:aI t b=(j:Int):=e2
 refine⟨i,j,hi,hj,fun e=>?_,by simpa using h1,by simpa using h2,?_⟩
 ·subst e
  have h1:t[i].1=a:=by simpa using h1
  have h2:t[i].1=b:=by simpa using h2
  exact u7 (h1.symm.trans h2)
 ·unfold sB two
  rw[e1,e2,Int.toNat_natCast,Int.toNat_natCast]
theorem qb {t:List aH} {a b d p q:Int} (h:aK t=true) (ha:aI t a≥0) (hb:aI t b≥0) (u7:a≠b) {x:aH} (hx:x∈sB t a b d p q):
  ∃ y:aH,y∈t∧x.1=y.1∧x.2.1=y.2.1∧((x.met=y.met∧x.1≠a∧x.1≠b)∨(y.1=a∧x.met=y.met++[b])∨(y.1=b∧x.met=y.met++[a])):=by
 obtain⟨i,j,hi,hj,sy,hia,hjb,e⟩:=W6 (d:=d) (p:=p) (q:=q) h ha hb u7
 rw[e] at hx
 obtain⟨k,hk,rfl⟩:=List.mem_iff_getElem.1 hx
 have gA:k<t.length:=by simpa using hk
 rw[List.getElem_set]
 by_cases Ju:j=k
 ·subst Ju
  rw[if_pos rfl]
  refine⟨t[j],List.getElem_mem hj,?_,?_,.inr (.inr ⟨hjb,?_⟩)⟩<;>unfold kU<;>rw[ax _ _ hj]
 ·rw[if_neg Ju,List.getElem_set]
  by_cases hik:i=k
  ·subst hik
   rw[if_pos rfl]
   refine⟨t[i],List.getElem_mem hi,?_,?_,.inr (.inl ⟨hia,?_⟩)⟩<;>unfold rQ<;>rw[ax _ _ hi]
  ·rw[if_neg hik]
   refine⟨t[k],List.getElem_mem gA,rfl,rfl,.inl ⟨rfl,fun e=>?_,fun e=>?_⟩⟩
   ·have:=qa h (List.getElem_mem gA) (List.getElem_mem hi) (e.trans hia.symm)
    have hp:=List.pairwise_iff_getElem.1 (l8 h)
    unfold er at hp
    rcases Nat.lt_or_gt_of_ne hik with cZ |cZ
    ·exact hp i k (by simpa using hi) (by simpa using gA) cZ (by simp[this])
    ·exact hp k i (by simpa using gA) (by simpa using hi) cZ (by simp[this])
   ·have:=qa h (List.getElem_mem gA) (List.getElem_mem hj) (e.trans hjb.symm)
    have hp:=List.pairwise_iff_getElem.1 (l8 h)
    unfold er at hp
    rcases Nat.lt_or_gt_of_ne Ju with cZ |cZ
    ·exact hp j k (by simpa using hj) (by simpa using gA) cZ (by simp[this])
    ·exact hp k j (by simpa using gA) (by simpa using hj) cZ (by simp[this])
theorem Gy {t:List aH} {a b d p q:Int} {g:aH→Int} {n:Int} (h:aK t=true) (ha:aI t a≥0) (hb:aI t b≥0) (u7:a≠b) (hg:∀ (i j:Nat),i<t.length→j<t.length→g (rQ t i b d p)+g (kU t j a d q)=g (t.getD i aC)+g (t.getD j aC)+n):mY g (sB t a b d p q)=mY g t+n:=by
 obtain⟨i,j,hi,hj,sy,hia,hjb,e⟩:=W6 (d:=d) (p:=p) (q:=q) h ha hb u7
 have:=hg i j hi hj
 rw[e,Gx g _ aC _ _ (by simpa using hj),Gx g _ aC _ _ hi,Gt sy]
 omega
theorem aaD {t:List aH} {a b d p q:Int} (h:aK t=true) (ha:aI t a≥0) (hb:aI t b≥0) (hd:d=1∨d=2) (hc:Clean t a b) (hF:Fair t):Fair (sB t a b d p q):=by
 obtain⟨u7,hc⟩:=hc
 have aeL:∀ i,i<t.length→((t.getD i aC).met.length≤20)∧(0≤(t.getD i aC).2.2.1∧(t.getD i aC).2.2.1≤20)∧(0≤(t.getD i aC).2.2.2.2.1∧(t.getD i aC).2.2.2.2.1≤20):=fun i hi=>by
  have:=D9 h (x:=t.getD i aC) (by rw[ax _ _ hi];exact List.getElem_mem hi)
  have h1:=this.w;have h2:=this.f;have h3:=this.m
  omega
 refine⟨fun x hx=>?_,fun x y hx hy AM=>?_,?_,?_⟩
 ·obtain⟨u,hu,e1,e2,e3⟩:=qb h ha hb u7 hx
  obtain⟨z1,Jp,f1⟩:∃ z∈t,z.1=a:=⟨_,(eo ha).1,(eo ha).2⟩
  obtain⟨z2,hz2,f2⟩:∃ z∈t,z.1=b:=⟨_,(eo hb).1,(eo hb).2⟩
  have hn:=hF.nd u hu
  rcases e3 with⟨e3,_⟩ |⟨e3,e4⟩ |⟨e3,e4⟩
  ·rw[e3];exact hn
  ·rw[e4]
   have:=(hc u z2 hu hz2 e3 f2).1
   exact List.nodup_append.2 ⟨hn,by simp,fun c YN d hd e=>by simp at hd;subst hd;subst e;exact this YN⟩
  ·rw[e4]
   have:=(hc z1 u Jp hu f1 e3).2.1
   exact List.nodup_append.2 ⟨hn,by simp,fun c YN d hd e=>by simp at hd;subst hd;subst e;exact this YN⟩
 ·obtain⟨u,hu,e1,e2,e3⟩:=qb h ha hb u7 hx
  obtain⟨v,hv,f1,f2,_⟩:=qb h ha hb u7 hy
  rw[e2,f2]
  rw[f1] at AM
  rcases e3 with⟨e3,_⟩ |⟨e3,e4⟩ |⟨e3,e4⟩
  ·exact hF.df u v hu hv (by rw[←e3];exact AM)
  ·rw[e4,List.mem_append,List.mem_singleton] at AM
   rcases AM with AM |AM
   ·exact hF.df u v hu hv AM
   ·exact(hc u v hu hv e3 AM).2.2
  ·rw[e4,List.mem_append,List.mem_singleton] at AM
   rcases AM with AM |AM
   ·exact hF.df u v hu hv AM
   ·exact fun e=>(hc v u hv hu AM e3).2.2 e.symm
 all_goals
  have hm:mY aaC (sB t a b d p q)=mY aaC t+2:=Gy h ha hb u7 fun i j hi hj=>by
   show(((t.getD i aC).2.2.2.2.2++[b]).length:Int)+(((t.getD j aC).2.2.2.2.2++[a]).length:Int)=((t.getD i aC).2.2.2.2.2.length:Int)+((t.getD j aC).2.2.2.2.2.length:Int)+2
   simp only[List.length_append,List.length_cons,List.length_nil]
   omega
  rw[hm]
 ·rw[Gy (g:=fun x:aH=>x.2.2.1) (n:=1) h ha hb u7 fun i j hi hj=>by
   have h1:=aeL i hi
   have h2:=aeL j hj
   show(bif d==1 then IntKind.wrap .i64 ((t.getD i aC).2.2.1+1) else(t.getD i aC).2.2.1)+(bif d==1 then(t.getD j aC).2.2.1 else IntKind.wrap .i64 ((t.getD j aC).2.2.1+1))=(t.getD i aC).2.2.1+(t.getD j aC).2.2.1+1
   rw[wrap64 (by omega) (by omega),wrap64 (by omega) (by omega)]
   cases d==1<;>simp<;>omega]
  have:=hF.w
  omega
 ·rw[Gy (g:=fun x:aH=>x.2.2.2.2.1) (n:=1) h ha hb u7 fun i j hi hj=>by
   have h1:=aeL i hi
   show IntKind.wrap .i64 ((t.getD i aC).2.2.2.2.1+1)+(t.getD j aC).2.2.2.2.1=(t.getD i aC).2.2.2.2.1+(t.getD j aC).2.2.2.2.1+1
   rw[wrap64 (by omega) (by omega)]
   omega]
  have:=hF.f
  omega
theorem TE {t:List aH} {a b d p q a' b':Int} (h:aK t=true) (ha:aI t a≥0) (hb:aI t b≥0) (u7:a≠b) (h1:a'≠a∧a'≠b) (h2:b'≠a∧b'≠b) (hc:Clean t a' b'):Clean (sB t a b d p q) a' b':=by
 refine⟨hc.1,fun x y hx hy ex ey=>?_⟩
 obtain⟨u,hu,e1,e2,e3⟩:=qb h ha hb u7 hx
 obtain⟨v,hv,f1,f2,f3⟩:=qb h ha hb u7 hy
 have:=hc.2 u v hu hv (e1.symm.trans ex) (f1.symm.trans ey)
 have e4:x.met=u.met:=by
  rcases e3 with e3 |e3 |e3
  ·exact e3.1
  ·exact absurd (ex.symm.trans (e1.trans e3.1)) h1.1
  ·exact absurd (ex.symm.trans (e1.trans e3.1)) h1.2
 have f4:y.met=v.met:=by
  rcases f3 with f3 |f3 |f3
  ·exact f3.1
  ·exact absurd (ey.symm.trans (f1.trans f3.1)) h2.1
  ·exact absurd (ey.symm.trans (f1.trans f3.1)) h2.2
 rw[e4,f4,e2,f2]
 exact this
theorem HR {t:List aH} {a b:Int} (h:cT t a b=true):Clean t a b:=by
 obtain⟨hT,_,_,u7⟩:=jZ h
 unfold cT at h
 simp only[Bool.and_eq_true,decide_eq_true_eq,Bool.not_eq_true',bne_iff_ne,ne_eq] at h
 obtain⟨_,ha,hb,_,j9,hm⟩:=h
 refine⟨u7,fun x y hx hy ex ey=>?_⟩
 have fx:(t.getD (aI t a).toNat aC)=x:=qa hT (eo ha).1 hx ((eo ha).2.trans ex.symm)
 have fy:(t.getD (aI t b).toNat aC)=y:=qa hT (eo hb).1 hy ((eo hb).2.trans ey.symm)
 unfold pW awn at hm
 unfold C9 at j9
 rw[fx,fy] at j9
 rw[fx,decide_eq_true ha,Bool.true_and] at hm
 have h1:b∉x.met:=fun hc=>by
  have:=l7.2 hc
  rw[hm] at this
  cases this
 refine⟨h1,fun hc=>?_,j9⟩
 obtain⟨_,z,hz,ez,hz2⟩:=(D9 hT hy).s a hc
 have:z=x:=qa hT hz hx (ez.trans ex.symm)
 subst this
 rw[ey] at hz2
 exact h1 hz2
theorem aaE {t:List aH} {r:List cS} (h:gv t r=true):(dI r).Nodup:=by
 unfold gv at h
 rw[Bool.and_eq_true,List.all_eq_true,List.all_eq_true] at h
 cases r with
 |nil=>simp[dI]
 |cons p r=>
  have hT:=(jZ (h.1 p (by simp))).1
  refine((OV (l8 hT) fun x hx=>?_).1 fun x hx=>?_).1
  ·unfold dI at hx
   obtain⟨q,hq,hx⟩:=List.mem_flatMap.1 hx
   obtain⟨_,h1,h2,_⟩:=jZ (h.1 q hq)
   simp at hx
   rcases hx with rfl |rfl
   ·exact h1
   ·exact h2
  ·obtain⟨y,hy,rfl⟩:=List.mem_map.1 hx
   have:=h.2 y hy
   simpa using this
theorem Da {c:aP}:∀ (r:List cS) (i:Nat) (s:aP) (ok:Bool),Fair s.1→(∀ p∈r,Clean s.1 p.1 p.2)→(dI r).Nodup→(cV c r i s ok).2=true→Fair (cV c r i s ok).1.1
 |[],i,s,ok,hF,_,_,_=>hF
 |x::r,i,s,ok,hF,hC,hN,ho=>by
  unfold cV at ho ⊢
  cases hb:vE c i x s with
  |false=>rw[hb,Bool.and_false,rR] at ho;cases ho
  |true=>
   rw[hb] at ho
   have hb2:=hb
   unfold vE at hb2
   have hf:=wK hb2
   have hT:aK s.1=true:=by
    have:=hb2
    unfold tU Gu at this
    simp only[Bool.and_eq_true] at this
    exact this.1.1
   have hx:=hC x (by simp)
   have e:(tW c i x s).1=sB s.1 x.1 x.2 (ofM (p8 c i)) (p8 c i).2.1 (p8 c i).2.2:=by
    show Gv _ _ _ _ _ _=_
    unfold Gv
    rw[hb2]
    rfl
   have hN':x.1∉dI r∧x.2∉dI r∧(dI r).Nodup:=by
    have:dI (x::r)=[x.1,x.2]++dI r:=rfl
    rw[this] at hN
    have:=List.nodup_append.1 hN
    exact⟨fun h=>this.2.2 x.1 (by simp) x.1 h rfl,fun h=>this.2.2 x.2 (by simp) x.2 h rfl,this.2.1⟩
   refine Da r (i+1) _ _ ?_ (fun p hp=>?_) hN'.2.2 ho
   ·rw[e]
    exact aaD hT hf.1 hf.2 (BH _) hx hF
   ·rw[e]
    have h1:p.1∈dI r:=List.mem_flatMap.2 ⟨p,hp,by simp⟩
    have h2:p.2∈dI r:=List.mem_flatMap.2 ⟨p,hp,by simp⟩
    exact TE hT hf.1 hf.2 hx.1 ⟨fun e=>hN'.1 (e▸h1),fun e=>hN'.2.1 (e▸h1)⟩ ⟨fun e=>hN'.1 (e▸h2),fun e=>hN'.2.1 (e▸h2)⟩ (hC p (by simp[hp]))
structure Good (c:aP):Prop where
 cl:cw c=true
 fa:Fair c.1
 mi:(OX c.2.2.2.2.2.1:Int)=c.2.2.2.2.2.2+c.2.2.2.2.1.length - (bz c).length
structure asm (c:aP):Prop where
 t:aK c.1=true
 j:cz c.2.1=true
 m:fF c.2.2.2.2.2.1=true
 sl:c.2.2.2.1.length=c.2.2.1.length
 bl:c.2.2.2.2.1.length=c.2.2.1.length
 ro:c.2.2.1.length=0∨(gv c.1 c.2.2.1=true∧eD c.1 c.2.1 c.2.2.1 c.2.2.2.1=true)
 ba:allI (kR c) c.2.2.2.2.1 0=true
 pl:0≤c.2.2.2.2.2.2∧c.2.2.2.2.2.2≤1000
 tw:nK c.1=c.2.2.2.2.2.2
theorem mZ {c:aP} (h:cw c=true):asm c:=by
 unfold cw at h
 simp only[Bool.and_eq_true,Bool.or_eq_true,decide_eq_true_eq,uH,beq_iff_eq] at h
 exact⟨h.1,h.2.1,h.2.2.1,h.2.2.2.1,h.2.2.2.2.1,h.2.2.2.2.2.1,h.2.2.2.2.2.2.1,h.2.2.2.2.2.2.2.1,h.2.2.2.2.2.2.2.2⟩
theorem aaF (l:List pZ) (cq fY:Int):OX (l++[Gd l cq fY])=OX l+(bif cq==4 then 1 else 0):=by
 unfold OX
 rw[List.filter_append,List.length_append]
 congr 1
 show(List.filter _ [((l.length:Int)+1,(cq,(fY,_)))]).length=_
 simp only[List.filter_cons,List.filter_nil]
 cases cq==4<;>rfl
theorem lF {c out:aP} {cq fY:Int} (h:Good c) (ho:cw (mW out (c.2.2.2.2.2.1++[Gd c.2.2.2.2.2.1 cq fY]))=true→Fair out.1∧c.2.2.2.2.2.2+c.2.2.2.2.1.length - (bz c).length+(bif cq==4 then 1 else 0)=out.2.2.2.2.2.2+out.2.2.2.2.1.length - (bz out).length):Good (eG c out cq fY):=by
 unfold eG
 cases hd:ef c out cq fY with
 |false=>exact h
 |true=>
  rw[cond_true]
  unfold ef at hd
  simp only[Bool.and_eq_true] at hd
  obtain⟨h1,_,h2⟩:=hd
  unfold iJ at*
  rw[h1,cond_true] at*
  obtain⟨h3,h4⟩:=ho h2
  refine⟨h2,h3,?_⟩
  show(OX (c.2.2.2.2.2.1++[Gd c.2.2.2.2.2.1 cq fY]):Int)=out.2.2.2.2.2.2+out.2.2.2.2.1.length - (bz out).length
  rw[aaF,←h4,←h.mi]
  cases cq==4<;>simp
theorem aaG {c:aP} {id bJ:Int} (h:Good c) (ht:aK (jv c id bJ).1=true):Fair (jv c id bJ).1:=by
 have u9:=O3 ht
 have hf:=h.fa
 have e:(jv c id bJ).1=c.1.take (kT c.1 id)++[Gf id bJ]++c.1.drop (kT c.1 id):=rfl
 have hs:∀ g:aH→Int,g (Gf id bJ)=0→mY g (jv c id bJ).1=mY g c.1:=fun g hg=>by
  have h1:=p9 g (c.1.take (kT c.1 id)) (c.1.drop (kT c.1 id))
  rw[List.take_append_drop] at h1
  rw[e,p9,p9,h1]
  simp only[mY,hg]
  omega
 have old:∀ x:aH,x∈c.1→id∉x.met:=fun x hx hc=>by
  obtain⟨_,y,hy,ey,_⟩:=(D9 (mZ h.cl).t hx).s id hc
  obtain⟨i,hi,rfl⟩:=List.mem_iff_getElem.1 hy
  have:=(uF (p:=fun x:aH=>x.1==id) u9).2 i hi
  simp[ey] at this
 refine⟨fun x hx=>?_,fun x y hx hy AM=>?_,?_,?_⟩
 ·rw[e] at hx
  rcases Gg hx with hx |rfl
  ·exact hf.nd x hx
  ·exact List.nodup_nil
 ·rw[e] at hx hy
  rcases Gg hx with hx |rfl
  ·rcases Gg hy with hy |rfl
   ·exact hf.df x y hx hy AM
   ·exact absurd AM (old x hx)
  ·cases AM
 ·rw[hs _ rfl,hs _ rfl];exact hf.w
 ·rw[hs _ rfl,hs _ rfl];exact hf.f
theorem TF {c:aP} {id:Int} (h:Good c) (hm:kS c id=true):Fair (jd c id).1:=by
 have hf:=h.fa
 unfold kS at hm
 simp only[Bool.and_eq_true,decide_eq_true_eq] at hm
 obtain⟨h1,_,h3⟩:=hm
 have hk:=(fG (l:=c.1) (id:=id) h1).2
 have e:(jd c id).1=c.1.take (aI c.1 id).toNat++c.1.drop ((aI c.1 id).toNat+1):=rfl
 have mu:∀ x:aH,x∈(jd c id).1→x∈c.1:=fun x hx=>by
  rw[e,List.mem_append] at hx
  rcases hx with hx |hx
  ·exact List.mem_of_mem_take hx
  ·exact List.mem_of_mem_drop hx
 have ht:=D9 (mZ h.cl).t (x:=c.1.getD (aI c.1 id).toNat aC) (by rw[ax _ _ hk];exact List.getElem_mem hk)
 have h3':(aH.met (c.1.getD (aI c.1 id).toNat aC)).length=0:=h3
 have hs:∀ g:aH→Int,g (c.1.getD (aI c.1 id).toNat aC)=0→mY g (jd c id).1=mY g c.1:=fun g hg=>by
  have h1:=p9 g (c.1.take (aI c.1 id).toNat) (c.1.drop (aI c.1 id).toNat)
  rw[List.take_append_drop,List.drop_eq_getElem_cons hk] at h1
  rw[ax _ _ hk] at hg
  rw[e,p9,h1]
  simp only[mY,hg]
  omega
 have e1:aaC (c.1.getD (aI c.1 id).toNat aC)=0:=by unfold aaC;omega
 have w1:=ht.w
 have f1:=ht.f
 refine⟨fun x hx=>hf.nd x (mu x hx),fun x y hx hy=>hf.df x y (mu x hx) (mu y hy),?_,?_⟩
 ·rw[hs _ e1,hs _ (by omega)];exact hf.w
 ·rw[hs _ e1,hs _ (by omega)];exact hf.f
theorem vF {α β:Type} {c:Nat→α→Bool} {f:Nat→α→β} {p:α→Bool} (hc:∀ i x,c i x=p x):∀ (l:List α) (i:Nat),(ir c f l i).length=(l.filter p).length
 |[],_=>rfl
 |x::r,i=>by
  simp only[ir,hc,List.filter_cons]
  cases p x<;>simp[vF hc r]
theorem j0 (c:aP):(bz c).length=(c.2.2.2.2.1.filter gP).length:=vF (p:=gP) (fun _ _=>rfl) _ _
theorem Gz {α:Type} {p:α→Bool} {y z:α}:∀ (l:List α) (i:Nat),i<l.length→p (l.getD i z)=true→p y=false→((l.set i y).filter p).length+1=(l.filter p).length
 |[],i,h,_,_=>by simp at h
 |x::r,0,h,h1,h2=>by
  simp only[List.getD_cons_zero] at h1
  simp only[List.set_cons_zero,List.filter_cons,h1,h2]
  simp
 |x::r,i+1,h,h1,h2=>by
  simp only[List.getD_cons_succ] at h1
  have:=Gz (y:=y) r i (by simpa using h) h1 h2
  simp only[List.set_cons_succ,List.filter_cons]
  cases p x<;>simp<;>omega
theorem Db {b:eN} (h:cC b=true):gP b=false:=by
 unfold cC at h
 simp only[Bool.and_eq_true,uH] at h
 unfold gP
 rw[decide_eq_false (show ¬(b.1:Int)=0 by omega)]
 rfl
theorem TG {c:aP} (h:Good c) (hm:l9 c=true) (hk:(cV c c.2.2.1 0 c true).2=true):Fair (cV c c.2.2.1 0 c true).1.1:=by
 unfold l9 at hm
 simp only[Bool.and_eq_true,decide_eq_true_eq] at hm
 obtain⟨hc,hr,_⟩:=hm
 have hR:=((mZ hc).ro.resolve_left hr).1
 have gQ:=hR
 unfold gv at gQ
 rw[Bool.and_eq_true,List.all_eq_true] at gQ
 exact Da c.2.2.1 0 c true h.fa (fun p hp=>HR (gQ.1 p hp)) (aaE hR) hk
theorem GA {b:Bool} {c:aP} {r:aP×Bool} (h:Good c) (hr:b=true→Good r.1):Good (Pl b c r).1:=by
 unfold Pl
 cases b with
 |false=>exact h
 |true=>exact hr rfl
theorem dP {c:aP} (h:Good c) (e:QL):Good (aY c e).1:=by
 have hI:=mZ h.cl
 unfold aY
 cases e.1==1
 rotate_left
 ·exact GA h fun _=>lF h fun ho=>⟨aaG h (mZ ho).t,by show _+_ - _+0=c.2.2.2.2.2.2+c.2.2.2.2.1.length - (bz c).length;omega⟩
 cases e.1==2
 rotate_left
 ·exact lF h fun ho=>⟨h.fa,by show _+_ - _+0=c.2.2.2.2.2.2+c.2.2.2.2.1.length - (bz c).length;omega⟩
 cases e.1==3
 rotate_left
 ·show Good (cM c).1
  unfold cM
  cases jR c.1 with
  |none=>exact h
  |some ps=>
   simp only[]
   cases iK c.1 c.2.1 ps with
   |none=>exact h
   |some ss=>
    cases hp:jE c with
    |false=>exact h
    |true=>
     refine lF h fun ho=>⟨h.fa,?_⟩
     unfold jE at hp
     simp only[Bool.and_eq_true,decide_eq_true_eq] at hp
     have hb:=hI.bl
     have hw:=BD c
     have sH:(bz (yK c ps ss)).length=ps.length:=by
      rw[j0]
      show((List.replicate ps.length ((0:Int),((0:Int),(0:Int)))).filter gP).length=_
      rw[List.filter_eq_self.2 (fun x hx=>by rw[List.eq_of_mem_replicate hx];rfl),List.length_replicate]
     have hl:(yK c ps ss).2.2.2.2.1.length=ps.length:=List.length_replicate
     have V2:(yK c ps ss).2.2.2.2.2.2=c.2.2.2.2.2.2:=rfl
     rw[sH,hl,V2]
     show _+_ - _+0=_
     omega
 cases e.1==4
 rotate_left
 ·refine GA h fun hm=>lF h fun ho=>⟨h.fa,?_⟩
  unfold oO at hm
  simp only[Bool.and_eq_true,decide_eq_true_eq] at hm
  obtain⟨_,⟨m1,m2⟩,m3,m4⟩:=hm
  have hb:=hI.bl
  have hf:=Gz (p:=gP) (y:=mF c e.2.2.2 e.2.1 e.2.2.1) (z:=gU) c.2.2.2.2.1 e.2.2.2.toNat (by omega) m3 (Db m4)
  have hw:(bz (mG c e.2.2.2 e.2.1 e.2.2.1)).length+1=(bz c).length:=by rw[j0,j0];exact hf
  have hl:(mG c e.2.2.2 e.2.1 e.2.2.1).2.2.2.2.1.length=c.2.2.2.2.1.length:=List.length_set
  have V2:(mG c e.2.2.2 e.2.1 e.2.2.1).2.2.2.2.2.2=c.2.2.2.2.2.2:=rfl
  rw[hl,V2]
  show _+_ - _+1=_
  omega
 cases e.1==5
 rotate_left
 ·show Good (eY c).1
  unfold eY
  cases hm:l9 c with
  |false=>exact h
  |true=>
   cases hk:(cV c c.2.2.1 0 c true).2 with
   |false=>exact h
   |true=>
    refine lF h fun ho=>⟨TG h hm hk,?_⟩
    unfold l9 at hm
    simp only[Bool.and_eq_true,decide_eq_true_eq] at hm
    obtain⟨_,_,hw⟩:=hm
    have hb:=hI.bl
    have hp:=hI.pl
    have hN:=h.mi
    have r10:=(eI h.cl).r10
    have h1:(Gw c (cV c c.2.2.1 0 c true).1).2.2.2.2.2.2=c.2.2.2.2.2.2+(List.length c.2.2.1:Int):=by
     show IntKind.wrap .i64 (c.2.2.2.2.2.2+(List.length c.2.2.1:Int))=_
     exact wrap64 (by omega) (by omega)
    have h2:(Gw c (cV c c.2.2.1 0 c true).1).2.2.2.2.1.length=0:=rfl
    have h3:(bz (Gw c (cV c c.2.2.1 0 c true).1)).length=0:=rfl
    rw[h1,h2,h3]
    show _+_ - _+0=_
    omega
 cases e.1==6
 rotate_left
 ·exact GA h fun hm=>lF h fun ho=>⟨TF h hm,by show _+_ - _+0=c.2.2.2.2.2.2+c.2.2.2.2.1.length - (bz c).length;omega⟩
 ·exact h
theorem TH (c:aP) (e:QL):(aY c e).1.2.2.2.2.2.1=c.2.2.2.2.2.1∨∃ x,(aY c e).1.2.2.2.2.2.1=c.2.2.2.2.2.1++[x]:=by
 have key:∀ (out:aP) (cq fY:Int),(eG c out cq fY).2.2.2.2.2.1=c.2.2.2.2.2.1∨∃ x,(eG c out cq fY).2.2.2.2.2.1=c.2.2.2.2.2.1++[x]:=fun out cq fY=>by
  unfold eG
  cases ef c out cq fY with
  |false=>exact .inl rfl
  |true=>
   show iJ c.2.2.2.2.2.1 cq fY=_∨∃ x,iJ c.2.2.2.2.2.1 cq fY=_
   unfold iJ
   cases lC c.2.2.2.2.2.1 cq fY with
   |false=>exact .inl rfl
   |true=>exact .inr ⟨_,rfl⟩
 have aeM:∀ (b:Bool) (out:aP) (cq fY:Int),(Pl b c (lf c out cq fY)).1.2.2.2.2.2.1=c.2.2.2.2.2.1∨∃ x,(Pl b c (lf c out cq fY)).1.2.2.2.2.2.1=c.2.2.2.2.2.1++[x]:=fun b out cq fY=>by
  cases b with
  |false=>exact .inl rfl
  |true=>exact key _ _ _
 unfold aY
 cases e.1==1
 rotate_left
 ·exact aeM _ _ _ _
 cases e.1==2
 rotate_left
 ·exact key _ _ _
 cases e.1==3
 rotate_left
 ·show(cM c).1.2.2.2.2.2.1=_∨∃ x,(cM c).1.2.2.2.2.2.1=_
  unfold cM
  cases jR c.1 with
  |none=>exact .inl rfl
  |some ps=>
   simp only[]
   cases iK c.1 c.2.1 ps with
   |none=>exact .inl rfl
   |some ss=>exact aeM _ _ _ _
 cases e.1==4
 rotate_left
 ·exact aeM _ _ _ _
 cases e.1==5
 rotate_left
 ·exact aeM _ _ _ _
 cases e.1==6
 rotate_left
 ·exact aeM _ _ _ _
 ·exact .inl rfl
end Go.Pv.R
namespace Go.Pv.R
set_option linter.unusedVariables false
set_option linter.unusedSimpArgs false
abbrev IT:=gJ
def mc (c:IT):Prop:=0≤c.2.1∧c.1.length≤1048576
def Pn {α:Type} (F:IT→(α→IT→Option ab)→Option ab) (P:α→Prop):Prop:=∀ c:IT,mc c→∃ v,∃ c':IT,mc c'∧P v∧∀ kf,F c kf=kf v c'
theorem aeN (x:BitVec (IntKind.bits .i64)):0≤IntKind.wrap .i64 (BitVec.toNat (x&&&BitVec.ofInt (IntKind.bits .i64) (255:Int)))∧IntKind.wrap .i64 (BitVec.toNat (x&&&BitVec.ofInt (IntKind.bits .i64) (255:Int)))≤255:=by
 have h:BitVec.toNat (x&&&BitVec.ofInt (IntKind.bits .i64) (255:Int))≤255:=by
  rw[BitVec.toNat_and]
  refine Nat.le_trans Nat.and_le_right ?_
  decide
 rw[wrap64 (by omega) (by omega)]
 omega
theorem Kv {N:Nat}:Pn (SG N) fun v=>0≤v∧v≤255:=fun c hc=>by
 obtain⟨hc,hl⟩:=hc
 unfold SG share
 rw[decide_eq_true (show(0:Int)≤33 by omega),decide_eq_true (show(0:Int)≤47 by omega)]
 simp only[cond_true]
 by_cases hi:c.2.1<(List.length c.1:Int)
 ·have fT:bC c.2.1 (List.length c.1)=true:=by
   have:=aG (i:=c.2.1.toNat) (m:=c.1.length) (by omega)
   rwa [Int.toNat_of_nonneg hc] at this
  rw[decide_eq_true hi,fT]
  simp only[cond_true]
  refine⟨_,(c.1,(IntKind.wrap .i64 (c.2.1+1),_)),⟨?_,hl⟩,aeN _,fun kf=>rfl⟩
  show 0≤IntKind.wrap .i64 (c.2.1+1)
  rw[wrap64 (by omega) (by omega)]
  omega
 ·rw[decide_eq_false hi]
  simp only[cond_false]
  exact⟨_,(c.1,(c.2.1,IntKind.wrap .i64 (IntKind.wrap .i64 (c.2.2*(6364136223846793005:Int))+(1442695040888963407:Int)))),⟨hc,hl⟩,aeN _,fun kf=>rfl⟩
theorem akf {r n:Int} (hr:0≤r) (hn:0<n):0≤Int.tmod r n∧Int.tmod r n<n:=by
 rw[Int.tmod_eq_emod_of_nonneg hr]
 exact⟨Int.emod_nonneg _ (by omega),Int.emod_lt_of_pos _ hn⟩
theorem pd {N:Nat} {n:Int} (h0:0<n) (h1:n≤256):Pn (fun c kf=>ve N c n kf) fun v=>0≤v∧v<n:=fun c hc=>by
 obtain⟨v,c',h2,h3,h4⟩:=Kv (N:=N) c hc
 refine⟨Int.tmod v n,c',h2,akf h3.1 h0,fun kf=>?_⟩
 show ve N c n kf=_
 unfold ve
 rw[decide_eq_false (by omega),decide_eq_true h1]
 simp only[cond_true,cond_false]
 rw[h4,decide_eq_false (by omega)]
 rfl
theorem Kw {N:Nat} {n:Int} (h0:0<n) (h1:n≤256):Pn (fun c kf=>ait N c n kf) fun _=>True:=fun c hc=>by
 obtain⟨v,c',h2,h3,h4⟩:=pd (N:=N) h0 h1 c hc
 exact⟨_,c',h2,trivial,fun kf=>h4 _⟩
theorem Po {N:Nat} {l:List Int} (h0:0<l.length) (h1:l.length≤256):Pn (fun c kf=>Bq N c l kf) fun v=>v∈l:=fun c hc=>by
 obtain⟨v,c',h2,h3,h4⟩:=pd (N:=N) (n:=(l.length:Int)) (by omega) (by omega) c hc
 have h4:∀ kf,ve N c (l.length:Int) kf=kf v c':=h4
 obtain⟨k,rfl⟩:∃ k:Nat,v=(k:Int):=⟨v.toNat,by omega⟩
 have hk:k<l.length:=by omega
 refine⟨l.getD k 0,c',h2,by rw[ax _ _ hk];exact List.getElem_mem hk,fun kf=>?_⟩
 show Bq N c l kf=_
 unfold Bq
 rw[h4,aG hk,Int.toNat_natCast]
 rfl
theorem qc {N:Nat} {a:List Int} (ha:a.length≤1048576) (hN:4000<N):∃ c:IT,mc c∧∀ kf,S67 N a kf=kf c:=by
 have key:∀ (d i n:Nat) (h:Int),i+d=min a.length 4000→d<n→∃ h',∀ k:Int→Option ab,Bn a n k h (i:Int)=k h':=by
  intro d
  induction d with
  |zero=>
   intro i n h hi hn
   obtain⟨n,rfl⟩:∃ m,n=m+1:=⟨n - 1,by omega⟩
   refine⟨h,fun k=>?_⟩
   unfold Bn
   by_cases h1:i<a.length
   ·rw[decide_eq_true (show(i:Int)<(List.length a:Int) by omega),decide_eq_false (show ¬(i:Int)<4000 by omega)]
    rfl
   ·rw[decide_eq_false (show ¬(i:Int)<(List.length a:Int) by omega)]
    rfl
  |succ d ih=>
   intro i n h hi hn
   obtain⟨n,rfl⟩:∃ m,n=m+1:=⟨n - 1,by omega⟩
   obtain⟨h',hh⟩:=ih (i+1) n (IntKind.wrap .i64 (BitVec.toNat (BitVec.ofInt (IntKind.bits .i64) (IntKind.wrap .i64 ((IntKind.wrap .i64 ((IntKind.wrap .i64 (h*(137:Int)))+(IntKind.wrap .i64 (List.getD a (Int.toNat (i:Int)) (0:Int)))))+(11:Int)))&&&BitVec.ofInt (IntKind.bits .i64) (1073741823:Int)))) (by omega) (by omega)
   refine⟨h',fun k=>?_⟩
   unfold Bn
   rw[decide_eq_true (show(i:Int)<(List.length a:Int) by omega),decide_eq_true (show(i:Int)<4000 by omega),aG (by omega)]
   simp only[cond_true]
   rw[wrap64 (n:=(i:Int)+1) (by omega) (by omega)]
   exact hh k
 obtain⟨h',hh⟩:=key (min a.length 4000) 0 N (IntKind.wrap .i64 ((193017:Int)+(List.length a:Int))) (by omega) (by omega)
 exact⟨(a,((0:Int),h')),⟨Int.le_refl 0,ha⟩,fun kf=>hh _⟩
def aaH:aP:=([],([],([],([],([],([],0))))))
theorem aaI:Good aaH:=by
 refine⟨by decide,⟨fun x hx=>(by cases hx),fun x y hx=>(by cases hx),rfl,rfl⟩,rfl⟩
end Go.Pv.R
namespace Go.Pv.R
set_option linter.unusedVariables false
set_option linter.unusedSimpArgs false
def akg (a b:List pZ):Bool:=fF a&&(fF b&&(decide (b.length≤a.length)&&decide (a.take b.length=b)))
theorem asn {N:Nat} {a b:List pZ} {kf:Bool→Option ab} (ha:a.length≤1048576) (hb:b.length≤1048576) (haN:a.length<N) (hbN:b.length<N) (h4:4<N):I15 N a b kf=kf (akg a b):=by
 have hm:=aN
 unfold I15 akg
 rw[Kg (by omega) haN h4]
 cases fF a with
 |false=>rfl
 |true=>
  simp only[cond_true,Bool.true_and]
  rw[Kg (by omega) hbN h4]
  cases fF b with
  |false=>rfl
  |true=>
   simp only[cond_true,Bool.true_and]
   by_cases hl:b.length≤a.length
   ·rw[decide_eq_true (show(List.length a:Int)≥(List.length b:Int) by omega),decide_eq_true hl,decide_eq_true (show(0:Int)≤0 by omega),decide_eq_true (show(0:Int)≤(List.length b:Int) by omega)]
    simp only[Bool.and_true,cond_true,Bool.true_and,Int.toNat_natCast,Int.toNat_zero,List.drop_zero]
    rw[aep (by rw[List.length_take];omega) (by rw[List.length_take];omega)]
   ·rw[decide_eq_false (show ¬(List.length a:Int)≥(List.length b:Int) by omega),decide_eq_false hl]
    rfl
end Go.Pv.R
namespace Go.Pv.R
set_option linter.unusedVariables false
set_option linter.unusedSimpArgs false
end Go.Pv.R
namespace Go.Pv.R
set_option linter.unusedVariables false
set_option linter.unusedSimpArgs false
theorem below {N:Nat} {n:Int} {c:IT} (h0:0<n) (h1:n≤256) (hc:mc c):∃ v,∃ c':IT,mc c'∧(0≤v∧v<n)∧∀ kf,ve N c n kf=kf v c':=pd (N:=N) h0 h1 c hc
theorem oneOf {N:Nat} {l:List Int} {c:IT} (h0:0<l.length) (h1:l.length≤256) (hc:mc c):∃ v,∃ c':IT,mc c'∧v∈l∧∀ kf,Bq N c l kf=kf v c':=Po (N:=N) h0 h1 c hc
theorem once {N:Nat} {n:Int} {c:IT} (h0:0<n) (h1:n≤256) (hc:mc c):∃ v,∃ c':IT,mc c'∧∀ kf,ait N c n kf=kf v c':=by
 obtain⟨v,c',h2,_,h4⟩:=Kw (N:=N) h0 h1 c hc
 exact⟨v,c',h2,h4⟩
end Go.Pv.R
namespace Go.Pv.R
set_option linter.unusedVariables false
set_option linter.unusedSimpArgs false
end Go.Pv.R
namespace Go.Pv.R
set_option linter.unusedVariables false
set_option linter.unusedSimpArgs false
theorem Pp {t:List aH} (h:aK t=true):DI (er t):=by
 unfold aK at h
 simp only[Bool.and_eq_true] at h
 have hm:=rM h.2.1
 refine List.pairwise_iff_getElem.2 fun j i hj hi mn=>?_
 unfold er at hj hi
 rw[List.length_map] at hj hi
 have:=hm j i hi mn
 rw[ax _ _ hj] at this
 unfold er
 simpa using this
end Go.Pv.R
namespace Go.Pv.R
set_option linter.unusedVariables false
set_option linter.unusedSimpArgs false
end Go.Pv.R
namespace Go.Pv.R
set_option linter.unusedVariables false
set_option linter.unusedSimpArgs false
end Go.Pv.R
namespace Go.Pv.R
set_option linter.unusedVariables false
set_option linter.unusedSimpArgs false
theorem aso {N:Nat} {a b:aP} {kf:Bool→Option ab} (h:bV a N):I42 N a b kf=kf (D4 a b):=by
 have hm:=aN
 have h1:=h.rl
 have h2:=h.rN
 have h3:=h.bl
 have h4:=h.ml
 have h5:=h.sl
 unfold D4 I42
 simp only[o8 h.tl h.tm h.tN,nW h.jl h.jm h.jN,Ko (N:=N) (a:=a.2.2.2.1) (by omega) h.sN,ajJ (N:=N) (a:=a.2.2.1) (by omega) (by omega),ajK (N:=N) (a:=a.2.2.2.2.1) (by omega) h.bN,aep (N:=N) (a:=a.2.2.2.2.2.1) (by omega) h.mN]
 cases a.2.2.2.2.2.2==b.2.2.2.2.2.2
 ·simp
 cases decide (a.1=b.1)
 ·rfl
 cases decide (a.2.1=b.2.1)
 ·rfl
 cases decide (a.2.2.1=b.2.2.1)
 ·rfl
 cases decide (a.2.2.2.1=b.2.2.2.1)
 ·rfl
 cases decide (a.2.2.2.2.1=b.2.2.2.2.1)
 ·rfl
 simp
theorem Pq (a:aP):D4 a a=true:=by unfold D4;simp
theorem apO {N:Nat} {c:aP} {id bJ:Int} {kf:aP→Bool→Option ab} (h:wN c N):Tl N c id bJ kf=kf (aY c ((1:Int),(id,(bJ,0)))).1 (aY c ((1:Int),(id,(bJ,0)))).2:=eZ (e:=((1:Int),(id,(bJ,0)))) h
theorem asp {N:Nat} {c:aP} {id bJ:Int} {kf:aP→Bool→Option ab} (h:wN c N):ZN N c id bJ kf=kf (aY c ((2:Int),(id,(bJ,0)))).1 (aY c ((2:Int),(id,(bJ,0)))).2:=eZ (e:=((2:Int),(id,(bJ,0)))) h
theorem apP {N:Nat} {c:aP} {kf:aP→Bool→Option ab} (h:wN c N):S21 N c kf=kf (aY c ((3:Int),(0,(0,0)))).1 (aY c ((3:Int),(0,(0,0)))).2:=eZ (e:=((3:Int),(0,(0,0)))) h
theorem W7 {N:Nat} {c:aP} {n f s:Int} {kf:aP→Bool→Option ab} (h:wN c N):Tm N c n f s kf=kf (aY c ((4:Int),(f,(s,n)))).1 (aY c ((4:Int),(f,(s,n)))).2:=eZ (e:=((4:Int),(f,(s,n)))) h
theorem asq {N:Nat} {c:aP} {kf:aP→Bool→Option ab} (h:wN c N):S27 N c kf=kf (aY c ((5:Int),(0,(0,0)))).1 (aY c ((5:Int),(0,(0,0)))).2:=eZ (e:=((5:Int),(0,(0,0)))) h
theorem Good.ev {c:aP} {N:Nat} (h:Good c) (hN:400<N):wN c N:=(eI h.cl).evC hN
theorem asr {N:Nat} (hN:400<N) {z:aP}:∀ (d i n:Nat) (c:IT) (x:aP),mc c→Good x→i+d=7→1≤i→d<n→∃ x':aP,∃ c':IT,mc c'∧Good x'∧∀ kf,rF N z n kf c x (i:Int)=kf c' x':=by
 intro d
 induction d with
 |zero=>
  intro i n c x hc hx hi h1 hn
  obtain⟨n,rfl⟩:∃ j,n=j+1:=⟨n - 1,by omega⟩
  obtain⟨v,c1,BI,hv,e1⟩:=below (N:=N) (n:=3) (by omega) (by omega) hc
  refine⟨x,c1,BI,hx,fun kf=>?_⟩
  unfold rF
  rw[e1,wrap64 (n:=1+v) (by omega) (by omega),wrap64 (by omega) (by omega),decide_eq_false (by omega)]
  rfl
 |succ d ih=>
  intro i n c x hc hx hi h1 hn
  obtain⟨n,rfl⟩:∃ j,n=j+1:=⟨n - 1,by omega⟩
  obtain⟨v,c1,BI,hv,e1⟩:=below (N:=N) (n:=3) (by omega) (by omega) hc
  by_cases hg:(i:Int)≤2*(1+v)
  ·obtain⟨x2,c2,um,nb,e2⟩:=ih (i+1) n c1 (aY x ((1:Int),((IntKind.wrap .i64 ((2:Int)*(i:Int))),((IntKind.wrap .i64 ((1:Int)+(Int.tmod (i:Int) (3:Int)))),0)))).1 BI (dP hx _) (by omega) (by omega) (by omega)
   refine⟨x2,c2,um,nb,fun kf=>?_⟩
   unfold rF
   rw[e1,wrap64 (n:=1+v) (by omega) (by omega),wrap64 (n:=2*(1+v)) (by omega) (by omega),decide_eq_true hg,cond_true,apO (hx.ev hN),wrap64 (n:=(i:Int)+1) (by omega) (by omega)]
   exact e2 kf
  ·refine⟨x,c1,BI,hx,fun kf=>?_⟩
   unfold rF
   rw[e1,wrap64 (n:=1+v) (by omega) (by omega),wrap64 (by omega) (by omega),decide_eq_false hg]
   rfl
theorem ass {N:Nat} (hN:400<N) {z:aP}:∀ (d i n:Nat) (c:IT) (x:aP),mc c→Good x→i+d=6→1≤i→d<n→∃ x':aP,∃ c':IT,mc c'∧Good x'∧∀ kf,rG N z n kf c x (i:Int)=kf c' x':=by
 intro d
 induction d with
 |zero=>
  intro i n c x hc hx hi h1 hn
  obtain⟨n,rfl⟩:∃ j,n=j+1:=⟨n - 1,by omega⟩
  obtain⟨v,c1,BI,hv,e1⟩:=below (N:=N) (n:=4) (by omega) (by omega) hc
  refine⟨x,c1,BI,hx,fun kf=>?_⟩
  unfold rG
  rw[e1,wrap64 (by omega) (by omega),decide_eq_false (by omega)]
  rfl
 |succ d ih=>
  intro i n c x hc hx hi h1 hn
  obtain⟨n,rfl⟩:∃ j,n=j+1:=⟨n - 1,by omega⟩
  obtain⟨v,c1,BI,hv,e1⟩:=below (N:=N) (n:=4) (by omega) (by omega) hc
  by_cases hg:(i:Int)≤2+v
  ·obtain⟨v2,c2,um,Nk,e2⟩:=below (N:=N) (n:=2) (by omega) (by omega) BI
   obtain⟨x2,c3,hc3,nb,e3⟩:=ih (i+1) n c2 (aY x ((2:Int),((IntKind.wrap .i64 ((10:Int)+(i:Int))),((IntKind.wrap .i64 ((4:Int)+v2)),0)))).1 um (dP hx _) (by omega) (by omega) (by omega)
   refine⟨x2,c3,hc3,nb,fun kf=>?_⟩
   unfold rG
   rw[e1,wrap64 (n:=2+v) (by omega) (by omega),decide_eq_true hg,cond_true,e2,asp (hx.ev hN),wrap64 (n:=(i:Int)+1) (by omega) (by omega)]
   exact e3 kf
  ·refine⟨x,c1,BI,hx,fun kf=>?_⟩
   unfold rG
   rw[e1,wrap64 (n:=2+v) (by omega) (by omega),decide_eq_false hg]
   rfl
theorem akh {N:Nat} (hN:400<N) {z:aP}:∀ (k n:Nat) (c:IT) (x:aP),mc c→Good x→k<n→k≤100→∃ x':aP,∃ c':IT,mc c'∧Good x'∧∀ kf,gq N z n kf c x (k:Int)=kf c' x':=by
 intro k
 induction k with
 |zero=>
  intro n c x hc hx hn hk
  obtain⟨n,rfl⟩:∃ j,n=j+1:=⟨n - 1,by omega⟩
  refine⟨x,c,hc,hx,fun kf=>?_⟩
  unfold gq
  rw[decide_eq_false (by omega)]
  rfl
 |succ k ih=>
  intro n c x hc hx hn hk
  obtain⟨n,rfl⟩:∃ j,n=j+1:=⟨n - 1,by omega⟩
  obtain⟨v,c1,BI,hv,e1⟩:=below (N:=N) (n:=4) (by omega) (by omega) hc
  have GB:IntKind.wrap .i64 (((k+1:Nat):Int) - 1)=(k:Int):=by rw[wrap64 (by omega) (by omega)];omega
  have Kx:bV x N:=(eI hx.cl).okC (by omega)
  have step:∀ (c2:IT) (e:QL),mc c2→∃ x':aP,∃ c':IT,mc c'∧Good x'∧∀ kf,gq N z n kf c2 (aY x e).1 (k:Int)=kf c' x':=fun c2 e um=>ih n c2 _ um (dP hx e) (by omega) (by omega)
  have hw:=BD x
  have b10:=(eI hx.cl).b10
  cases hv0:v==0 with
  |true=>
   obtain⟨x2,c2,um,nb,e2⟩:=step c1 ((3:Int),(0,(0,0))) BI
   refine⟨x2,c2,um,nb,fun kf=>?_⟩
   unfold gq
   rw[decide_eq_true (by omega),cond_true,e1,hv0,cond_true,apP (hx.ev hN),GB]
   exact e2 kf
  |false=>
   cases hv1:v==1 with
   |true=>
    obtain⟨x2,c2,um,nb,e2⟩:=step c1 ((5:Int),(0,(0,0))) BI
    refine⟨x2,c2,um,nb,fun kf=>?_⟩
    unfold gq
    rw[decide_eq_true (by omega),cond_true,e1,hv0,hv1,cond_false,cond_true,asq (hx.ev hN),GB]
    exact e2 kf
   |false=>
    by_cases hwz:(List.length (bz x):Int)>0
    ·obtain⟨p,c2,um,hp,e2⟩:=below (N:=N) (n:=20) (by omega) (by omega) BI
     obtain⟨q,c3,hc3,hq,e3⟩:=oneOf (N:=N) (l:=[(-2:Int),(1:Int),(3:Int)]) (by simp) (by simp) um
     obtain⟨x2,c4,hc4,nb,e4⟩:=step c3 ((4:Int),((IntKind.wrap .i64 ((60:Int)+p)),((IntKind.wrap .i64 ((IntKind.wrap .i64 ((60:Int)+p))+q)),(List.getD (bz x) (Int.toNat (0:Int)) (0:Int))))) hc3
     refine⟨x2,c4,hc4,nb,fun kf=>?_⟩
     have fT:bC (0:Int) (List.length (bz x))=true:=by
      have:=aG (i:=0) (m:=(bz x).length) (by omega)
      exact this
     unfold gq
     rw[decide_eq_true (by omega),cond_true,e1,hv0,hv1,cond_false,cond_false,yC Kx,decide_eq_true hwz,cond_true,e2,fT,cond_true,e3,W7 (hx.ev hN),GB]
     exact e4 kf
    ·obtain⟨x2,c2,um,nb,e2⟩:=step c1 ((3:Int),(0,(0,0))) BI
     refine⟨x2,c2,um,nb,fun kf=>?_⟩
     unfold gq
     rw[decide_eq_true (by omega),cond_true,e1,hv0,hv1,cond_false,cond_false,yC Kx,decide_eq_false hwz,cond_false,apP (hx.ev hN),GB]
     exact e2 kf
theorem hY {N:Nat} (hN:400<N):Pn (J6 N) Good:=fun c hc=>by
 obtain⟨x1,c1,BI,hx1,e1⟩:=asr (N:=N) hN (z:=aaH) 6 1 N c aaH hc aaI rfl (by omega) (by omega)
 obtain⟨x2,c2,um,nb,e2⟩:=ass (N:=N) hN (z:=aaH) 5 1 N c1 x1 BI hx1 rfl (by omega) (by omega)
 obtain⟨v,c3,hc3,hv,e3⟩:=below (N:=N) (n:=9) (by omega) (by omega) um
 obtain⟨k,rfl⟩:∃ k:Nat,v=(k:Int):=⟨v.toNat,by omega⟩
 obtain⟨x4,c4,hc4,hx4,e4⟩:=akh (N:=N) hN (z:=aaH) k N c3 x2 hc3 nb (by omega) (by omega)
 refine⟨x4,c4,hc4,hx4,fun kf=>?_⟩
 unfold J6 S68
 refine(e1 _).trans ?_
 refine(e2 _).trans ?_
 rw[e3]
 exact e4 _
end Go.Pv.R
namespace Go.Pv.R
set_option linter.unusedVariables false
set_option linter.unusedSimpArgs false
theorem ng {c out:aP} {cq fY:Int} (h:ef c out cq fY=true):eG c out cq fY=mW out (iJ c.2.2.2.2.2.1 cq fY):=by
 unfold eG;rw[h];rfl
theorem Ky {b:Bool} {c:aP} {r:aP×Bool} (h:(Pl b c r).2=true):b=true∧Pl b c r=r:=by
 cases b with
 |false=>cases h
 |true=>exact⟨rfl,rfl⟩
theorem aki {c:aP} {e:QL} (h:(aY c e).2=false):(aY c e).1=c:=by
 rcases Pm c e with⟨h1,_⟩ |⟨_,h2⟩
 ·exact h1
 ·rw[h] at h2;cases h2
theorem aeO {c:aP} (h:Good c) (e:QL):akg (aY c e).1.2.2.2.2.2.1 c.2.2.2.2.2.1=true:=by
 have hn:=dP h e
 unfold akg
 rw[(mZ hn.cl).m,(mZ h.cl).m]
 simp only[Bool.true_and,Bool.and_eq_true,decide_eq_true_eq]
 rcases TH c e with e |⟨x,e⟩<;>rw[e]<;>simp
theorem DP {c:aP} {id bJ:Int} (h:(aY c ((1:Int),(id,(bJ,0)))).2=true):aI (aY c ((1:Int),(id,(bJ,0)))).1.1 id≥0:=by
 have h0:aY c ((1:Int),(id,(bJ,0)))=Pl (decide (c.2.2.1.length=0)) c (lf c (jv c id bJ) 1 id):=rfl
 rw[h0] at h ⊢
 obtain⟨_,he⟩:=Ky h
 rw[he] at h ⊢
 have hd:ef c (jv c id bJ) 1 id=true:=h
 show aI (eG c (jv c id bJ) 1 id).1 id≥0
 rw[ng hd]
 show gu (fun x:aH=>x.1==id) (c.1.take (kT c.1 id)++[Gf id bJ]++c.1.drop (kT c.1 id))≥0
 have:=uG (fun x:aH=>x.1==id) (c.1.take (kT c.1 id)++[Gf id bJ]++c.1.drop (kT c.1 id))
 have ha:(c.1.take (kT c.1 id)++[Gf id bJ]++c.1.drop (kT c.1 id)).any (fun x:aH=>x.1==id)=true:=List.any_eq_true.2 ⟨Gf id bJ,by simp,by simp[Gf]⟩
 rw[ha] at this
 exact of_decide_eq_true this
theorem Pr {c:aP} {id bJ:Int} (h:(aY c ((2:Int),(id,(bJ,0)))).2=true):(aY c ((2:Int),(id,(bJ,0)))).1.2.1.length=c.2.1.length+1:=by
 have h0:aY c ((2:Int),(id,(bJ,0)))=lf c (je c id bJ) 2 id:=rfl
 rw[h0] at h ⊢
 have hd:ef c (je c id bJ) 2 id=true:=h
 show(eG c (je c id bJ) 2 id).2.1.length=_
 rw[ng hd]
 show(c.2.1.take (pc c.2.1 id)++[aex id bJ]++c.2.1.drop (pc c.2.1 id)).length=_
 have:=yH c.2.1 id
 simp
 omega
theorem IU {c:aP} (h:(aY c ((3:Int),(0,(0,0)))).2=true):0<(aY c ((3:Int),(0,(0,0)))).1.2.2.1.length∧(bz (aY c ((3:Int),(0,(0,0)))).1).length=(aY c ((3:Int),(0,(0,0)))).1.2.2.1.length:=by
 have h0:aY c ((3:Int),(0,(0,0)))=cM c:=rfl
 rw[h0] at h ⊢
 revert h
 unfold cM
 cases RH:jR c.1 with
 |none=>intro h;cases h
 |some ps=>
  simp only[]
  cases iK c.1 c.2.1 ps with
  |none=>intro h;cases h
  |some ss=>
   cases hp:jE c with
   |false=>intro h;cases h
   |true=>
    intro h
    have hd:ef c (yK c ps ss) 3 0=true:=h
    simp only[cond_true]
    rw[ng hd,j0]
    unfold jE at hp
    simp only[Bool.and_eq_true,decide_eq_true_eq] at hp
    have:=(wJ RH).1
    refine⟨show 0<ps.length by omega,?_⟩
    show((List.replicate ps.length ((0:Int),((0:Int),(0:Int)))).filter gP).length=ps.length
    rw[List.filter_eq_self.2 (fun x hx=>by rw[(List.mem_replicate.1 hx).2];rfl),List.length_replicate]
theorem IV {p:eN→Bool}:∀ (l:List eN) (k:Nat) (y:eN),p (l.getD k gU)=true→k<l.length→p y=false→((l.set k y).filter p).length+1=(l.filter p).length
 |[],k,y,_,hk,_=>absurd hk (Nat.not_lt_zero _)
 |x::r,0,y,hx,_,hy=>by
  have hx:p x=true:=hx
  rw[List.set_cons_zero,List.filter_cons,List.filter_cons,hx,hy]
  simp
 |x::r,k+1,y,hx,hk,hy=>by
  have ih:=IV r k y hx (Nat.lt_of_succ_lt_succ hk) hy
  rw[List.set_cons_succ,List.filter_cons,List.filter_cons]
  cases p x with
  |false=>simpa using ih
  |true=>simp only[if_true,List.length_cons];omega
theorem aaJ {c:aP} {f s n:Int} (hc:cw c=true) (h:(aY c ((4:Int),(f,(s,n)))).2=true):(bz (aY c ((4:Int),(f,(s,n)))).1).length+1=(bz c).length:=by
 have h0:aY c ((4:Int),(f,(s,n)))=Pl (oO c n f s) c (lf c (mG c n f s) 4 (mF c n f s).1):=rfl
 rw[h0] at h ⊢
 obtain⟨hm,he⟩:=Ky h
 rw[he] at h ⊢
 have hd:ef c (mG c n f s) 4 (mF c n f s).1=true:=h
 show(bz (eG c (mG c n f s) 4 (mF c n f s).1)).length+1=_
 rw[ng hd,j0,j0]
 unfold oO at hm
 simp only[Bool.and_eq_true,decide_eq_true_eq] at hm
 obtain⟨_,⟨m1,m2⟩,m3,m4⟩:=hm
 have hbl:=(mZ hc).bl
 show((c.2.2.2.2.1.set n.toNat (mF c n f s)).filter gP).length+1=_
 exact IV _ _ _ m3 (by omega) (Db m4)
theorem GC {c:aP} (h:(aY c ((5:Int),(0,(0,0)))).2=true):(aY c ((5:Int),(0,(0,0)))).1.2.2.1.length=0∧(aY c ((5:Int),(0,(0,0)))).1.2.2.2.2.2.2=IntKind.wrap .i64 (c.2.2.2.2.2.2+(List.length c.2.2.1:Int)):=by
 have h0:aY c ((5:Int),(0,(0,0)))=eY c:=rfl
 rw[h0] at h ⊢
 revert h
 unfold eY
 cases l9 c&&(cV c c.2.2.1 0 c true).2 with
 |false=>intro h;cases h
 |true=>
  intro h
  have hd:ef c (Gw c (cV c c.2.2.1 0 c true).1) 5 0=true:=h
  simp only[cond_true]
  rw[ng hd]
  exact⟨rfl,rfl⟩
theorem aaK {c:aP} {id:Int} (hc:cw c=true) (h:(aY c ((6:Int),(id,(0,0)))).2=true): ¬aI (aY c ((6:Int),(id,(0,0)))).1.1 id≥0:=by
 have h0:aY c ((6:Int),(id,(0,0)))=Pl (kS c id) c (lf c (jd c id) 6 id):=rfl
 rw[h0] at h ⊢
 obtain⟨hm,he⟩:=Ky h
 rw[he] at h ⊢
 have hd:ef c (jd c id) 6 id=true:=h
 show ¬aI (eG c (jd c id) 6 id).1 id≥0
 rw[ng hd]
 unfold kS at hm
 simp only[Bool.and_eq_true,decide_eq_true_eq] at hm
 obtain⟨m1,_,_⟩:=hm
 obtain⟨k,hk,hf,hq,_⟩:=ck (p:=fun x:aH=>x.1==id) (l:=c.1) (show ¬aI c.1 id<0 by omega)
 have hf:aI c.1 id=(k:Int):=hf
 show ¬gu (fun x:aH=>x.1==id) (c.1.take (aI c.1 id).toNat++c.1.drop ((aI c.1 id).toNat+1))≥0
 rw[hf,Int.toNat_natCast]
 intro hn
 have ha:=uG (fun x:aH=>x.1==id) (c.1.take k++c.1.drop (k+1))
 rw[decide_eq_true hn] at ha
 obtain⟨x,hx,hxi⟩:=List.any_eq_true.1 ha.symm
 have axr:=Pp (mZ hc).t
 have YZ:(er c.1)[k]'(by unfold er;rw[List.length_map];exact hk)=id:=by
  unfold er
  rw[List.getElem_map]
  simpa using hq
 have hxi:x.1=id:=by simpa using hxi
 rw[List.mem_append] at hx
 have Oc:=List.pairwise_iff_getElem.1 axr
 have hl:(er c.1).length=c.1.length:=by unfold er;rw[List.length_map]
 have at_:∀ (j:Nat) (hj:j<c.1.length),(er c.1)[j]'(by omega)=c.1[j].1:=fun j hj=>by unfold er;rw[List.getElem_map]
 rcases hx with hx |hx
 ·obtain⟨j,hj,e⟩:=List.mem_iff_getElem.1 hx
  rw[List.length_take] at hj
  rw[List.getElem_take] at e
  have:=Oc j k (by omega) (by omega) (by omega)
  rw[YZ,at_ j (by omega),e,hxi] at this
  omega
 ·obtain⟨j,hj,e⟩:=List.mem_iff_getElem.1 hx
  rw[List.length_drop] at hj
  rw[List.getElem_drop] at e
  have:=Oc k (k+1+j) (by omega) (by omega) (by omega)
  rw[YZ,at_ (k+1+j) (by omega),e,hxi] at this
  omega
theorem awq {N:Nat} {c:aP} {id bJ:Int} {kf:aP→Bool→Option ab} (h:wN c N):I30 N c id bJ kf=kf (aY c ((1:Int),(id,(bJ,0)))).1 (aY c ((1:Int),(id,(bJ,0)))).2:=dZ (e:=((1:Int),(id,(bJ,0)))) h
theorem ast {N:Nat} {c:aP} {id bJ:Int} {kf:aP→Bool→Option ab} (h:wN c N):I32 N c id bJ kf=kf (aY c ((2:Int),(id,(bJ,0)))).1 (aY c ((2:Int),(id,(bJ,0)))).2:=dZ (e:=((2:Int),(id,(bJ,0)))) h
theorem awr {N:Nat} {c:aP} {kf:aP→Bool→Option ab} (h:wN c N):I23 N c kf=kf (aY c ((3:Int),(0,(0,0)))).1 (aY c ((3:Int),(0,(0,0)))).2:=dZ (e:=((3:Int),(0,(0,0)))) h
theorem akj {N:Nat} {c:aP} {n f s:Int} {kf:aP→Bool→Option ab} (h:wN c N):I35 N c n f s kf=kf (aY c ((4:Int),(f,(s,n)))).1 (aY c ((4:Int),(f,(s,n)))).2:=dZ (e:=((4:Int),(f,(s,n)))) h
theorem asu {N:Nat} {c:aP} {kf:aP→Bool→Option ab} (h:wN c N):I28 N c kf=kf (aY c ((5:Int),(0,(0,0)))).1 (aY c ((5:Int),(0,(0,0)))).2:=dZ (e:=((5:Int),(0,(0,0)))) h
theorem asv {N:Nat} {c:aP} {id:Int} {kf:aP→Bool→Option ab} (h:wN c N):I38 N c id kf=kf (aY c ((6:Int),(id,(0,0)))).1 (aY c ((6:Int),(id,(0,0)))).2:=dZ (e:=((6:Int),(id,(0,0)))) h
end Go.Pv.R
namespace Go.Pv.R
set_option linter.unusedVariables false
set_option linter.unusedSimpArgs false
section
variable {N:Nat} {a:List Int}
theorem Ps (ha:a.length≤1048576) (hN:4000<N):∃ (c:aP) (i j:Int),Good c∧∀ kf,S29 N a kf=kf c i j:=by
 obtain⟨c0,vp,e0⟩:=qc (N:=N) ha (by omega)
 obtain⟨x,c1,BI,hx,e1⟩:=hY (N:=N) (by omega) c0 vp
 obtain⟨i,c2,um,_,e2⟩:=oneOf (N:=N) (l:=[(1:Int),(2:Int),(3:Int),(7:Int),(99:Int),(100:Int),(0:Int)]) (by simp) (by simp) BI
 obtain⟨j,c3,hc3,_,e3⟩:=oneOf (N:=N) (l:=[(1:Int),(2:Int),(99:Int),(100:Int)]) (by simp) (by simp) um
 unfold S29
 simp only[e0,e1,e2,e3]
 exact⟨x,i,j,hx,fun kf=>rfl⟩
theorem Kz (ha:a.length≤1048576) (hN:4000<N):∃ (c:aP) (i j:Int),Good c∧∀ kf,S31 N a kf=kf c i j:=by
 obtain⟨c0,vp,e0⟩:=qc (N:=N) ha (by omega)
 obtain⟨x,c1,BI,hx,e1⟩:=hY (N:=N) (by omega) c0 vp
 obtain⟨i,c2,um,_,e2⟩:=oneOf (N:=N) (l:=[(1:Int),(11:Int),(30:Int),(99:Int),(100:Int)]) (by simp) (by simp) BI
 obtain⟨j,c3,hc3,_,e3⟩:=oneOf (N:=N) (l:=[(1:Int),(5:Int),(99:Int),(100:Int)]) (by simp) (by simp) um
 unfold S31
 simp only[e0,e1,e2,e3]
 exact⟨x,i,j,hx,fun kf=>rfl⟩
theorem Pt (ha:a.length≤1048576) (hN:4000<N):∃ (c:aP),Good c∧∀ kf,S33 N a kf=kf c:=by
 obtain⟨c0,vp,e0⟩:=qc (N:=N) ha (by omega)
 obtain⟨x,c1,BI,hx,e1⟩:=hY (N:=N) (by omega) c0 vp
 unfold S33
 simp only[e0,e1]
 exact⟨x,hx,fun kf=>rfl⟩
theorem HS (ha:a.length≤1048576) (hN:4000<N):∃ (c:aP) (n f s:Int),Good c∧∀ kf,S34 N a kf=kf c n f s:=by
 obtain⟨c0,vp,e0⟩:=qc (N:=N) ha (by omega)
 obtain⟨x,c1,BI,hx,e1⟩:=hY (N:=N) (by omega) c0 vp
 obtain⟨v,c2,um,_,e2⟩:=below (N:=N) (n:=4) (by omega) (by omega) BI
 obtain⟨i,c3,hc3,_,e3⟩:=oneOf (N:=N) (l:=[(60:Int),(70:Int),(0:Int),(100:Int),(101:Int)]) (by simp) (by simp) um
 obtain⟨j,c4,hc4,_,e4⟩:=oneOf (N:=N) (l:=[(65:Int),(70:Int),(0:Int),(100:Int),(-1:Int)]) (by simp) (by simp) hc3
 unfold S34
 simp only[e0,e1,e2,e3,e4]
 exact⟨x,_,i,j,hx,fun kf=>rfl⟩
theorem aeP (hN:4000<N) {z:aP}:∀ (k n:Nat) (x:aP),Good x→k<n→k≤100→∃ x':aP,Good x'∧∀ kf,tJ N z n kf x (k:Int)=kf x':=by
 intro k
 induction k with
 |zero=>
  intro n x hx hn hk
  obtain⟨n,rfl⟩:∃ j,n=j+1:=⟨n - 1,by omega⟩
  refine⟨x,hx,fun kf=>?_⟩
  unfold tJ
  rw[decide_eq_false (by omega)]
  rfl
 |succ k ih=>
  intro n x hx hn hk
  obtain⟨n,rfl⟩:∃ j,n=j+1:=⟨n - 1,by omega⟩
  have GB:IntKind.wrap .i64 (((k+1:Nat):Int) - 1)=(k:Int):=by rw[wrap64 (by omega) (by omega)];omega
  have Kx:bV x N:=(eI hx.cl).okC (by omega)
  by_cases hwz:(List.length (bz x):Int)>0
  ·obtain⟨x2,nb,e2⟩:=ih n (aY x ((4:Int),((70:Int),((IntKind.wrap .i64 ((60:Int)+((k+1:Nat):Int))),(List.getD (bz x) (Int.toNat (0:Int)) (0:Int)))))).1 (dP hx _) (by omega) (by omega)
   refine⟨x2,nb,fun kf=>?_⟩
   have fT:bC (0:Int) (List.length (bz x))=true:=by
    have:=aG (i:=0) (m:=(bz x).length) (by omega)
    exact this
   unfold tJ
   rw[decide_eq_true (by omega),cond_true,yC Kx,decide_eq_true hwz,cond_true,fT,cond_true,W7 (hx.ev (by omega)),GB]
   exact e2 kf
  ·obtain⟨x2,nb,e2⟩:=ih n x hx (by omega) (by omega)
   refine⟨x2,nb,fun kf=>?_⟩
   unfold tJ
   rw[decide_eq_true (by omega),cond_true,yC Kx,decide_eq_false hwz,cond_false,GB]
   exact e2 kf
theorem KA (ha:a.length≤1048576) (hN:4000<N):∃ (c:aP),Good c∧∀ kf,S36 N a kf=kf c:=by
 obtain⟨c0,vp,e0⟩:=qc (N:=N) ha (by omega)
 obtain⟨x,c1,BI,hx,e1⟩:=hY (N:=N) (by omega) c0 vp
 obtain⟨v,c2,um,hv,e2⟩:=below (N:=N) (n:=4) (by omega) (by omega) BI
 obtain⟨k,rfl⟩:∃ k:Nat,v=(k:Int):=⟨v.toNat,by omega⟩
 obtain⟨y,hy,e3⟩:=aeP hN (z:=aaH) k N x hx (by omega) (by omega)
 unfold S36
 simp only[e0,e1,e2]
 exact⟨y,hy,fun kf=>e3 kf⟩
theorem KB (ha:a.length≤1048576) (hN:4000<N):∃ (c:aP) (i:Int),Good c∧∀ kf,S37 N a kf=kf c i:=by
 obtain⟨c0,vp,e0⟩:=qc (N:=N) ha (by omega)
 obtain⟨x,c1,BI,hx,e1⟩:=hY (N:=N) (by omega) c0 vp
 obtain⟨b,c2,um,e2⟩:=once (N:=N) (n:=2) (by omega) (by omega) BI
 obtain⟨i,c3,hc3,_,e3⟩:=oneOf (N:=N) (l:=[(2:Int),(4:Int),(50:Int),(50:Int),(99:Int)]) (by simp) (by simp) um
 unfold S37 Tp
 simp only[e0,e1,e2,e3]
 cases b with
 |false=>exact⟨x,i,hx,fun kf=>by simp only[cond_false]⟩
 |true=>exact⟨_,i,dP hx ((1:Int),(50,(3,0))),fun kf=>by simp only[cond_true,apO (hx.ev (show 400<N by omega)),e3]⟩
end
section
variable {N:Nat} {c:aP} {A B:Option ab}
theorem asw {id bJ:Int} {K:Bool→Option ab} (h:Good c) (hN:4000<N) (hK:K true=B):(bif (aY c ((1:Int),(id,(bJ,0)))).2 then RM N (aY c ((1:Int),(id,(bJ,0)))).1 (fun r=>bif (!r) then A else HN N (aY c ((1:Int),(id,(bJ,0)))).1.1 id (fun r=>bif (decide (r<(0:Int))) then A else I15 N (aY c ((1:Int),(id,(bJ,0)))).1.2.2.2.2.2.1 c.2.2.2.2.2.1 K)) else B)=B:=by
 cases hb:(aY c ((1:Int),(id,(bJ,0)))).2 with
 |false=>rfl
 |true=>
  have hx:=aN
  have hn:=dP h ((1:Int),(id,(bJ,0)))
  have hS:=eI hn.cl
  have hT:=eI h.cl
  have Kx:=hS.okC (N:=N) (by omega)
  have m1:=hS.asj
  have m2:=hT.asj
  have hf:=DP hb
  rw[cond_true,nL Kx,hn.cl,Bool.not_true,cond_false,lB Kx.tl Kx.tN,decide_eq_false (by omega),cond_false,asn (by omega) (by omega) (by omega) (by omega) (by omega),aeO h]
  exact hK
theorem akk {id bJ:Int} {C:Option ab} (h:Good c) (hN:4000<N) (hC:(aY c ((2:Int),(id,(bJ,0)))).2=true→C=B):(bif (aY c ((2:Int),(id,(bJ,0)))).2 then RM N (aY c ((2:Int),(id,(bJ,0)))).1 (fun r=>bif (!r) then A else C) else B)=B:=by
 cases hb:(aY c ((2:Int),(id,(bJ,0)))).2 with
 |false=>rfl
 |true=>
  have hn:=dP h ((2:Int),(id,(bJ,0)))
  rw[cond_true,nL ((eI hn.cl).okC (by omega)),hn.cl,Bool.not_true,cond_false]
  exact hC hb
theorem asx {K:List Int→Option ab} (h:Good c) (hN:4000<N) (hK:(aY c ((3:Int),(0,(0,0)))).2=true→K (bz (aY c ((3:Int),(0,(0,0)))).1)=B):(bif (aY c ((3:Int),(0,(0,0)))).2 then RM N (aY c ((3:Int),(0,(0,0)))).1 (fun r=>bif (!r) then A else Om N (aY c ((3:Int),(0,(0,0)))).1 (fun r=>bif (!r) then A else I41 N (aY c ((3:Int),(0,(0,0)))).1 K)) else B)=B:=by
 cases hb:(aY c ((3:Int),(0,(0,0)))).2 with
 |false=>rfl
 |true=>
  have hn:=dP h ((3:Int),(0,(0,0)))
  have Kx:=(eI hn.cl).okC (N:=N) (by omega)
  have hr:=(IU hb).1
  unfold Om
  rw[cond_true,nL Kx,hn.cl,Bool.not_true,cond_false,decide_eq_true (by omega)]
  simp only[Bool.not_true,cond_false]
  rw[Kn Kx]
  exact hK hb
theorem aeQ {n f s:Int} {K:List Int→List Int→Option ab} (h:Good c) (hN:4000<N) (hK:(aY c ((4:Int),(f,(s,n)))).2=true→K (bz (aY c ((4:Int),(f,(s,n)))).1) (bz c)=B):(bif (aY c ((4:Int),(f,(s,n)))).2 then RM N (aY c ((4:Int),(f,(s,n)))).1 (fun r=>bif (!r) then A else I41 N (aY c ((4:Int),(f,(s,n)))).1 (fun u=>I41 N c (fun v=>K u v))) else B)=B:=by
 cases hb:(aY c ((4:Int),(f,(s,n)))).2 with
 |false=>rfl
 |true=>
  have hn:=dP h ((4:Int),(f,(s,n)))
  have Kx:=(eI hn.cl).okC (N:=N) (by omega)
  rw[cond_true,nL Kx,hn.cl,Bool.not_true,cond_false,Kn Kx,Kn ((eI h.cl).okC (by omega))]
  exact hK hb
theorem akl {C:Option ab} (h:Good c) (hN:4000<N) (hC:(aY c ((5:Int),(0,(0,0)))).2=true→C=B):(bif (aY c ((5:Int),(0,(0,0)))).2 then RM N (aY c ((5:Int),(0,(0,0)))).1 (fun r=>bif (!r) then A else Om N (aY c ((5:Int),(0,(0,0)))).1 (fun r=>bif r then A else C)) else B)=B:=by
 cases hb:(aY c ((5:Int),(0,(0,0)))).2 with
 |false=>rfl
 |true=>
  have hn:=dP h ((5:Int),(0,(0,0)))
  have hr:=(GC hb).1
  unfold Om
  rw[cond_true,nL ((eI hn.cl).okC (by omega)),hn.cl,Bool.not_true,cond_false,decide_eq_false (by omega)]
  exact hC hb
theorem akm {id:Int} {K:Int→Option ab} (h:Good c) (hN:4000<N) (hK:∀ v,¬v≥0→K v=B):(bif (aY c ((6:Int),(id,(0,0)))).2 then RM N (aY c ((6:Int),(id,(0,0)))).1 (fun r=>bif (!r) then A else HN N (aY c ((6:Int),(id,(0,0)))).1.1 id K) else B)=B:=by
 cases hb:(aY c ((6:Int),(id,(0,0)))).2 with
 |false=>rfl
 |true=>
  have hn:=dP h ((6:Int),(id,(0,0)))
  have Kx:=(eI hn.cl).okC (N:=N) (by omega)
  rw[cond_true,nL Kx,hn.cl,Bool.not_true,cond_false,lB Kx.tl Kx.tN]
  exact hK _ (aaK h.cl hb)
theorem BJ {e:QL} {K:Bool→Option ab} (h:Good c) (hN:4000<N) (hK:K true=B):(bif (aY c e).2 then B else I42 N c (aY c e).1 K)=B:=by
 cases hb:(aY c e).2 with
 |true=>rfl
 |false=>rw[cond_false,aki hb,aso ((eI h.cl).okC (by omega)),Pq,hK]
end
theorem TJ (a:List Int) (h:wfs [.sl (.int .u8)] (a,())):∃ N,∀ kf,L6 N a kf=kf true:=by
 obtain⟨N,hN⟩:∃ N:Nat,N=5000:=⟨_,rfl⟩
 refine⟨N,fun kf=>?_⟩
 have hx:=aN
 unfold L6 ar2 aju L11
 by_cases hb:(List.length a:Int)>1048576
 ·rw[decide_eq_true hb];rfl
 rw[decide_eq_false hb]
 simp only[cond_false]
 have h5:4000<N:=by omega
 obtain⟨a1,id,bJ,g1,e1⟩:=Ps (N:=N) (a:=a) (by omega) h5
 obtain⟨a2,j,k,g2,e2⟩:=Kz (N:=N) (a:=a) (by omega) h5
 obtain⟨a3,g3,e3⟩:=Pt (N:=N) (a:=a) (by omega) h5
 obtain⟨a4,n,p,q,g4,e4⟩:=HS (N:=N) (a:=a) (by omega) h5
 obtain⟨a5,g5,e5⟩:=KA (N:=N) (a:=a) (by omega) h5
 obtain⟨a6,t,g6,e6⟩:=KB (N:=N) (a:=a) (by omega) h5
 rw[e1,awq (g1.ev (by omega)),e2,ast (g2.ev (by omega)),e3,awr (g3.ev (by omega)),e4,akj (g4.ev (by omega)),e5,asu (g5.ev (by omega)),e6,asv (g6.ev (by omega))]
 refine Eq.trans (asw g1 h5 rfl) ?_
 dsimp only[Kf,D2,cond_false]
 refine Eq.trans (akk g2 h5 fun hb=>?_) ?_
 ·have:=Pr hb
  have:=(eI g2.cl).W3
  rw[wrap64 (n:=(List.length a2.2.1:Int)+1) (by omega) (by omega),show((List.length (aY a2 ((2:Int),(j,(k,0)))).1.2.1:Int) != (List.length a2.2.1:Int)+1)=false by rw[Pr hb];simp]
 dsimp only[Ke,D1,cond_false]
 refine Eq.trans (asx g3 h5 fun hb=>?_) ?_
 ·rw[show((List.length (bz (aY a3 ((3:Int),(0,(0,0)))).1):Int) != (List.length (aY a3 ((3:Int),(0,(0,0)))).1.2.2.1:Int))=false by rw[(IU hb).2];simp]
 dsimp only[Kc,D0,cond_false]
 refine Eq.trans (aeQ g4 h5 (K:=fun u v=>_) fun hb=>?_) ?_
 ·have:=aaJ g4.cl hb
  have:=BD a4
  have:=(eI g4.cl).b10
  rw[wrap64 (n:=(List.length (bz a4):Int) - 1) (by omega) (by omega),show((List.length (bz (aY a4 ((4:Int),(p,(q,n)))).1):Int) != (List.length (bz a4):Int) - 1)=false by rw[bne_eq_false_iff_eq];omega]
 dsimp only[Kb,DZ,cond_false]
 refine Eq.trans (akl g5 h5 fun hb=>?_) ?_
 ·rw[show((aY a5 ((5:Int),(0,(0,0)))).1.2.2.2.2.2.2 != IntKind.wrap .i64 (a5.2.2.2.2.2.2+(List.length a5.2.2.1:Int)))=false by rw[(GC hb).2];simp]
 dsimp only[Ka,DY,cond_false]
 refine Eq.trans (akm g6 h5 fun v hv=>?_) ?_
 ·rw[decide_eq_false hv]
 dsimp only[J',DX,cond_false]
 refine Eq.trans (BJ g1 h5 rfl) ?_
 dsimp only[F5,yA,cond_true]
 refine Eq.trans (BJ g2 h5 rfl) ?_
 dsimp only[F4,yz,cond_true]
 refine Eq.trans (BJ g3 h5 rfl) ?_
 dsimp only[J9,DW,cond_true]
 refine Eq.trans (BJ g4 h5 rfl) ?_
 dsimp only[J8,DV,cond_true]
 refine Eq.trans (BJ g5 h5 rfl) ?_
 dsimp only[J7,cond_true]
 exact BJ g6 h5 rfl
end Go.Pv.R
