/- The law over the plain functions. -/
import Derived.Test.YtdacecahpdgooaaGreatDoorPlHz
namespace Go.Pv.R
set_option linter.unusedVariables false
set_option linter.unusedSimpArgs false
end Go.Pv.R
namespace Go.Pv.R
set_option linter.unusedVariables false
set_option linter.unusedSimpArgs false
theorem lY {N:Nat} {a b c:Int} {kf:Bool→Option af}:mC N a b c kf=kf (ic a b c):=by
 unfold mC ic
 by_cases h:b≤a<;>simp[h]
theorem Ta {N:Nat} {a b c:Int} {kf:Bool→Option af}:I38 N a b c kf=kf (ic a b c):=by
 unfold I38 ic
 by_cases h:b≤a<;>simp[h]
end Go.Pv.R
namespace Go.Pv.R
set_option linter.unusedVariables false
set_option linter.unusedSimpArgs false
theorem Px (a:Int):(a.tmod 2147483647=a%2147483647∧0≤a)∨(a.tmod 2147483647= -((-a)%2147483647)∧a<0):=by
 rcases Int.lt_or_le a 0 with h |h
 ·right
  refine⟨?_,h⟩
  have h1:(-a).tmod 2147483647=(-a)%2147483647:=Int.tmod_eq_emod_of_nonneg (by omega)
  rw[Int.neg_tmod] at h1
  omega
 ·exact .inl ⟨Int.tmod_eq_emod_of_nonneg h,h⟩
theorem Xm {N:Nat} {a:Int} {kf:Int→Option af}:RU N a 2147483647 kf=kf (a%2147483647):=by
 unfold RU
 rw[lY,show ic 2147483647 1 1000000000000=true from by decide]
 have e:(decide ((2147483647:Int)=0))=false:=by decide
 simp only[Bool.not_true,cond_false,e,Bool.not_false,cond_true]
 congr 1
 rcases Px a with⟨h,h'⟩ |⟨h,h'⟩<;>rw[h,wrap64 (by omega) (by omega),Int.tmod_eq_emod_of_nonneg (by omega)]<;>omega
def foldM (i:Nat) (x s:Int):Int:=Int.tmod (IntKind.wrap .i64 ((IntKind.wrap .i64 ((IntKind.wrap .i64 (s*(1000003:Int)))+x%2147483647))+(13:Int))) (2147483647:Int)
def YV (l:List Int):Int:=foldI foldM l 0 11
theorem Xn {N:Nat} {l:List Int} {kf:Int→Option af} (hl:l.length≤maxLen) (hN:l.length<N):Xe N l kf=kf (YV l):=by
 unfold Xe
 rw[Pw hl hN,KN foldM (fun i x s next h e=>by rw[Xm];rfl)]
 rfl
def Hv (s:Int) (x:br):Int:=YV [s,x.1,x.2.1,x.2.2.1]
theorem Tb {N:Nat} {s:Int} {x:br} {kf:Int→Option af} (hN:4<N):S89 N s x kf=kf (Hv s x):=by
 unfold S89
 rw[Xn (by rw[aW];simp) (by simpa using hN)]
 rfl
def Tc:List br→Nat→Int→Bool
 |[],_,_=>true
 |x::r,i,s=>(x.1==((i+1:Nat):Int))&&ic x.2.1 1 9&&ic x.2.2.1 0 99&&(x.2.2.2==Hv s x)&&Tc r (i+1) x.2.2.2
def ko (l:List br):Bool:=decide (l.length≤200)&&Tc l 0 0
theorem Td {N:Nat} {l:List br} {kf:Bool→Option af} (hl:l.length≤maxLen) (hN:l.length<N) (h4:4<N):S73 N l kf=kf (ko l):=by
 unfold S73
 rw[SH hl hN]
 by_cases hc:l.length≤200
 ·have h1:(decide ((l.length:Int)≤200))=true:=decide_eq_true (by omega)
  have key:∀ (r:List br) (i:Nat) (s:Int),l.drop i=r→eh (fun(i:Nat) (x:br) (ay:Int) (next:Int→Option af)=>
    bif (decide ((List.length l:Int)≤(200:Int))) then
     S89 N ay x (fun(mE:Int)=>
      bif (x.1 != (IntKind.wrap .i64 ((i:Int)+(1:Int)))) then kf false
      else
       mC N x.2.1 (1:Int) (9:Int) (fun(tW:Bool)=>
        bif (!tW) then kf false
        else
         mC N x.2.2.1 (0:Int) (99:Int) (fun(Hg:Bool)=>
          bif (!Hg) then kf false
          else
           bif (x.2.2.2 != mE) then kf false
           else next mE)))
    else kf (decide ((List.length l:Int)≤(200:Int)))) (fun(ay:Int)=>kf (decide ((List.length l:Int)≤(200:Int)))) r i s=kf (Tc r i s):=by
   intro r
   induction r with
   |nil=>intro i s _;simp only[eh,Tc,h1]
   |cons x r ih=>
    intro i s hd
    have cI:i<l.length:=by have:=congrArg List.length hd;simp at this;omega
    rw[List.drop_eq_getElem_cons cI] at hd
    injection hd with e1 e2
    simp only[eh,Tc]
    simp only[ih (i+1) _ e2]
    simp only[h1,cond_true,Tb h4,lY,kC cI hl]
    cases hx:(x.1==((i+1:Nat):Int)) with
    |false=>simp only[bne,hx,Bool.not_false,cond_true,Bool.false_and]
    |true=>
     simp only[bne,hx,Bool.not_true,cond_false,Bool.true_and]
     cases ic x.2.1 1 9<;>simp
     cases ic x.2.2.1 0 99<;>simp
     by_cases hs:x.2.2.2=Hv s x
     ·simp[hs]
     ·have:(x.2.2.2==Hv s x)=false:=by simpa using hs
      simp[this]
  refine Eq.trans (key l 0 0 rfl) ?_
  unfold ko
  simp[hc]
 ·have h1:(decide ((l.length:Int)≤200))=false:=decide_eq_false (by omega)
  cases l with
  |nil=>simp at hc
  |cons x r=>
   simp only[eh,h1,cond_false]
   unfold ko
   rw[decide_eq_false hc]
   rfl
end Go.Pv.R
namespace Go.Pv
set_option linter.unusedVariables false
set_option linter.unusedSimpArgs false
theorem zT {α:Type} {p:α→Bool}:∀ {l:List α} {i k:Nat},jV p l i=some k→∃ j,∃ h:j<l.length,k=i+j∧p l[j]=true∧∀ j' (h':j'<j),p (l[j']'(by omega))=false
 |[],i,k,h=>by cases h
 |x::r,i,k,h=>by
  simp only[jV] at h
  cases hp:p x with
  |true=>
   rw[hp] at h
   injection h with h
   exact⟨0,by simp,by omega,hp,fun j' h'=>by omega⟩
  |false=>
   rw[hp] at h
   obtain⟨j,hj,e,h1,h2⟩:=zT (l:=r) h
   refine⟨j+1,by simpa using hj,by omega,h1,fun j' h'=> ?_⟩
   cases j' with
   |zero=>exact hp
   |succ j'=>exact h2 j' (by omega)
theorem zU {α:Type} {p:α→Bool}:∀ {l:List α} {i:Nat},jV p l i=none→∀ j (h:j<l.length),p l[j]=false
 |[],i,h,j,hj=>by simp at hj
 |x::r,i,h,j,hj=>by
  simp only[jV] at h
  cases hp:p x with
  |true=>rw[hp] at h;cases h
  |false=>
   rw[hp] at h
   cases j with
   |zero=>exact hp
   |succ j=>exact zU (l:=r) h j (by simpa using hj)
theorem uc {α:Type} {body:Nat→α→Option af→Option af} {cW:Option af} {kf:Nat→Option af} {p:α→Bool} (hb:∀ (i:Nat) (x:α) (next:Option af),body i x next=bif p x then kf i else next):∀ (l:List α) (i:Nat),s4 body cW l i=match jV p l i with
  |some k=>kf k
  |none=>cW
 |[],_=>rfl
 |x::r,i=>by
  simp only[s4,jV]
  rw[hb]
  cases p x
  ·exact uc hb r (i+1)
  ·rfl
def lZ {α:Type} (p:α→Bool) (l:List α):Int:=match jV p l 0 with
 |some k=>(k:Int)
 |none=> -1
theorem cp {α:Type} {p:α→Bool} {l:List α} (h: ¬lZ p l<0):∃ k:Nat,∃ hk:k<l.length,lZ p l=(k:Int)∧p l[k]=true∧∀ j (hj:j<k),p (l[j]'(by omega))=false:=by
 unfold lZ at*
 split at h
 ·rename_i k hk
  obtain⟨j,hj,e,h1,h2⟩:=zT hk
  obtain rfl:k=j:=by omega
  exact⟨k,hj,rfl,h1,h2⟩
 ·omega
theorem vl {α:Type} {p:α→Bool} {l:List α} (h:lZ p l<0):lZ p l= -1∧∀ j (hj:j<l.length),p l[j]=false:=by
 unfold lZ at*
 split at h
 ·omega
 ·rename_i hn
  exact⟨rfl,zU hn⟩
theorem Hw {α:Type} {p q:Nat→α→Bool}:∀ {l:List α} {i:Nat},allI (fun i x=>p i x&&q i x) l i=(allI p l i&&allI q l i)
 |[],_=>rfl
 |x::r,i=>by
  simp only[allI,Hw (l:=r)]
  cases p i x<;>cases q i x<;>cases allI p r (i+1)<;>simp
theorem K5 {α:Type} {p q:Nat→α→Bool} {l:List α} (h:∀ (j:Nat) (hj:j<l.length),p j l[j]=q j l[j]):allI p l 0=allI q l 0:=by
 apply Bool.eq_iff_iff.2
 rw[dS,dS]
 constructor
 ·intro h1 j hj;have:=h1 j hj;rw[Nat.zero_add] at*;rw[←h j hj];exact this
 ·intro h1 j hj;have:=h1 j hj;rw[Nat.zero_add] at*;rw[h j hj];exact this
theorem qQ {i m:Nat} (h0:0<i) (h:i<m) (hm:m≤maxLen):IntKind.wrap .i64 ((i:Int) - 1)=((i - 1:Nat):Int):=by
 have:=aW
 rw[wrap64]<;>omega
end Go.Pv
namespace Go.Pv.R
set_option linter.unusedVariables false
set_option linter.unusedSimpArgs false
abbrev az:=ah
def aF (l:List az) (id:Int):Int:=lZ (fun x:az=>x.1==id) l
theorem mU {N:Nat} {l:List az} {id:Int} {kf:Int→Option af} (hl:l.length≤maxLen) (hN:l.length<N):MN N l id kf=kf (aF l id):=by
 unfold MN
 rw[SC hl hN,uc (p:=fun x:az=>x.1==id) (kf:=fun i=>kf (i:Int)) (fun i x next=>rfl)]
 unfold aF lZ
 cases jV (fun x:az=>x.1==id) l 0<;>rfl
def qi (l:List Int) (n:Int):Int:=foldI (fun i x s=>bif x==n then IntKind.wrap .i64 (s+1) else s) l 0 0
theorem Te {N:Nat} {l:List Int} {n:Int} {kf:Int→Option af} (hl:l.length≤maxLen) (hN:l.length<N):S91 N l n kf=kf (qi l n):=by
 unfold S91
 rw[SD hl hN,KN (fun i x s=>bif x==n then IntKind.wrap .i64 (s+1) else s) (fun i x s next h e=>by cases x==n<;>rfl)]
 rfl
abbrev az.met (x:az):List Int:=x.2.2.2.2.2
def j9 (l:List az) (i:Nat) (x:az):Bool:=ic x.1 1 99&&(ic x.2.1 1 99&&(ic x.2.2.1 0 x.met.length&&(ic x.2.2.2.2.1 0 x.met.length&&(ic x.2.2.2.1 0 100000&&(decide (x.met.length≤20)&&(decide (i=0)||decide ((l.getD (i - 1) ab).1<x.1)))))))
def Tf (l:List az) (x:az) (id:Int):Bool:= !decide (aF l id<0)&&(!(id==x.1)&&(qi x.met id==qi (l.getD (aF l id).toNat ab).met x.1))
def aD (l:List az):Bool:=decide (l.length≤10)&&(allI (j9 l) l 0&&allI (fun _ x=>x.met.all (Tf l x)) l 0)
def D5 (l:List az) (i:Nat) (x:az) (id:Int):Bool:= !decide (aF l id<0)&&(!(aF l id==(i:Int))&&(qi (l.getD (aF l id).toNat ab).met x.1==qi x.met (l.getD (aF l id).toNat ab).1))
theorem Hx {α:Type} {p:α→Bool}:∀ {l:List α} {i:Nat},allI (fun _ x=>p x) l i=l.all p
 |[],_=>rfl
 |x::r,i=>by simp only[allI,List.all_cons,Hx (l:=r)]
theorem sR {l:List az} (h:allI (j9 l) l 0=true):∀ (j i:Nat) (hi:i<l.length),j<i→(l.getD j ab).1<l[i].1:=by
 rw[dS] at h
 have step:∀ (i:Nat) (hi:i<l.length),0<i→(l.getD (i - 1) ab).1<l[i].1:=fun i hi h0=>by
  have:=h i hi
  rw[Nat.zero_add] at this
  simp only[j9,Bool.and_eq_true,Bool.or_eq_true,decide_eq_true_eq] at this
  omega
 intro j i hi kd
 induction i with
 |zero=>omega
 |succ i ih=>
  have h1:=step (i+1) hi (by omega)
  rw[Nat.add_sub_cancel,au _ _ (show i<l.length by omega)] at h1
  rcases Nat.lt_or_eq_of_le (Nat.le_of_lt_succ kd) with h2 |rfl
  ·have:=ih (by omega) h2;omega
  ·rw[au _ _ (by omega)];exact h1
theorem K6 {l:List az} (h:allI (j9 l) l 0=true) {i:Nat} (hi:i<l.length) {id:Int}:aF l id=(i:Int)↔id=l[i].1:=by
 constructor
 ·intro e
  obtain⟨k,hk,e1,h1,_⟩:=cp (p:=fun x:az=>x.1==id) (l:=l) (by unfold aF at e;omega)
  unfold aF at e
  obtain rfl:k=i:=by omega
  exact(beq_iff_eq.1 h1).symm
 ·rintro rfl
  unfold aF
  by_cases hn:lZ (fun x:az=>x.1==l[i].1) l<0
  ·have:=(vl hn).2 i hi
   simp at this
  ·obtain⟨k,hk,e1,h1,h2⟩:=cp hn
   rw[e1]
   have h1:l[k].1=l[i].1:=by simpa using h1
   rcases Nat.lt_trichotomy k i with cI |rfl |cI
   ·have:=sR h k i hi cI
    rw[au _ _ hk] at this
    omega
   ·rfl
   ·have:=h2 i cI
    simp at this
theorem Xo {l:List az} (h:allI (j9 l) l 0=true) {i:Nat} (hi:i<l.length) (id:Int):D5 l i l[i] id=Tf l l[i] id:=by
 unfold D5 Tf
 by_cases hn:aF l id<0
 ·simp[hn]
 ·rw[decide_eq_false hn,Bool.not_false,Bool.true_and,Bool.true_and]
  have e1:(aF l id==(i:Int))=(id==l[i].1):=by
   apply Bool.eq_iff_iff.2
   rw[beq_iff_eq,beq_iff_eq]
   exact K6 h hi
  rw[e1]
  obtain⟨k,hk,e2,h2,_⟩:=cp (p:=fun x:az=>x.1==id) hn
  have e3:aF l id=(k:Int):=e2
  rw[e3,Int.toNat_natCast,au _ _ hk,show l[k].1=id by simpa using h2]
  congr 1
  apply Bool.eq_iff_iff.2
  rw[beq_iff_eq,beq_iff_eq]
  exact⟨fun h=>h.symm,fun h=>h.symm⟩
theorem Hy (l:List az):(allI (fun i x=>j9 l i x&&x.met.all (D5 l i x)) l 0&&decide (l.length≤10))=aD l:=by
 unfold aD
 rw[Hw]
 cases h:allI (j9 l) l 0 with
 |false=>simp
 |true=>
  have:allI (fun i x=>x.met.all (D5 l i x)) l 0=allI (fun _ x=>x.met.all (Tf l x)) l 0:=K5 fun j hj=>by
   congr 1
   funext id
   exact Xo h hj id
  rw[this]
  cases decide (l.length≤10)<;>simp
theorem mV {N:Nat} {l:List az} {kf:Bool→Option af} (hl:l.length≤maxLen) (hm:∀ x∈l,x.met.length≤maxLen∧x.met.length<N) (hN:l.length<N):JT N l kf=kf (aD l):=by
 unfold JT
 rw[SF hl hN,mB (l:=l) (p:=fun i x=>j9 l i x&&x.met.all (D5 l i x)) (kf:=kf false) (fun i x next h e=> ?_) l 0 rfl, ←Hy]
 ·cases allI (fun i x=>j9 l i x&&x.met.all (D5 l i x)) l 0
  ·rfl
  ·simp only[cond_true,Bool.true_and]
   congr 1
   apply Bool.eq_iff_iff.2
   simp
   omega
 ·have hx:x∈l:=by rw[←e];exact List.getElem_mem h
  obtain⟨m1,m2⟩:=hm x hx
  have inner:lV N l (i:Int) x N next kf (0:Int)=bif x.met.all (D5 l i x) then next else kf false:=by
   rw[SE m1 m2,mB (l:=x.met) (p:=fun _ id=>D5 l i x id) (kf:=kf false) (fun j id next' hj ej=> ?_) x.met 0 rfl,Hx]
   rw[mU hl hN]
   unfold D5
   by_cases hn:aF l id<0
   ·simp[hn]
   ·rw[decide_eq_false hn,cond_false,Bool.not_false,Bool.true_and]
    cases hf:aF l id==(i:Int)
    ·obtain⟨k,hk,e2,h2,_⟩:=cp (p:=fun x:az=>x.1==id) hn
     have e3:aF l id=(k:Int):=e2
     obtain⟨q1,q2⟩:=hm l[k] (List.getElem_mem hk)
     rw[cond_false,e3,aM hk,cond_true,cond_true,Int.toNat_natCast,au _ _ hk,Te q1 q2,Te m1 m2]
     cases hc:(qi l[k].met x.1==qi x.met l[k].1)<;>simp[bne,hc]
    ·simp
  have ord:∀ A B:Option af,(bif (decide ((i:Int)>(0:Int))) then
    bif (bw (IntKind.wrap .i64 ((i:Int) - (1:Int))) (List.length l)) then
     bif (decide ((List.getD l (Int.toNat (IntKind.wrap .i64 ((i:Int) - (1:Int)))) ab).1≥x.1)) then A else B
    else none
   else B)=bif (decide (i=0)||decide ((l.getD (i - 1) ab).1<x.1)) then B else A:=fun A B=>by
   by_cases h0:i=0
   ·subst h0;simp
   ·rw[decide_eq_true (show(i:Int)>0 by omega),cond_true,qQ (by omega) h hl,aM (by omega),cond_true,Int.toNat_natCast,decide_eq_false h0,Bool.false_or]
    by_cases hc:(l.getD (i - 1) ab).1<x.1
    ·rw[decide_eq_false (by omega),decide_eq_true hc];rfl
    ·rw[decide_eq_true (by omega),decide_eq_false hc];rfl
  simp only[lY,inner,ord]
  unfold j9
  cases ic x.1 1 99<;>simp
  cases ic x.2.1 1 99<;>simp
  cases ic x.2.2.1 0 x.met.length<;>simp
  cases ic x.2.2.2.2.1 0 x.met.length<;>simp
  cases ic x.2.2.2.1 0 100000<;>simp
  by_cases Wi:x.met.length≤20
  ·rw[decide_eq_false (show ¬(20:Int)<(x.met.length:Int) by omega),decide_eq_true Wi]
   simp
   cases (decide (i=0)||decide ((l[i - 1]?.getD ab).1<x.1))<;>simp
  ·rw[decide_eq_true (show(20:Int)<(x.met.length:Int) by omega),decide_eq_false Wi]
   simp
end Go.Pv.R
namespace Go.Pv
set_option linter.unusedVariables false
set_option linter.unusedSimpArgs false
def cb {α β:Type} (c:Nat→α→Bool) (f:Nat→α→β):List α→Nat→List β
 |[],_=>[]
 |x::r,i=>bif c i x then f i x::cb c f r (i+1) else cb c f r (i+1)
theorem fO {α β:Type} {c:Nat→α→Bool} {f:Nat→α→β}:∀ (l:List α) (i:Nat),(cb c f l i).length≤l.length
 |[],_=>Nat.le_refl _
 |x::r,i=>by
  simp only[cb]
  have:=fO (c:=c) (f:=f) r (i+1)
  cases c i x<;>simp<;>omega
theorem dW {α β:Type} {body:Nat→α→List β→(List β→Option af)→Option af} {cW:List β→Option af} {c:Nat→α→Bool} {f:Nat→α→β} {l:List α}
  (hb:∀ (i:Nat) (x:α) (s:List β) (next:List β→Option af) (h:i<l.length),l[i]=x→s.length≤i→body i x s next=bif c i x then next (s++[f i x]) else next s):
  ∀ (r:List α) (i:Nat) (s:List β),l.drop i=r→s.length≤i→eh body cW r i s=cW (s++cb c f r i)
 |[],i,s,_,_=>by simp[eh,cb]
 |x::r,i,s,hd,hs=>by
  have cI:i<l.length:=by have:=congrArg List.length hd;simp at this;omega
  rw[List.drop_eq_getElem_cons cI] at hd
  injection hd with h1 h2
  simp only[eh,cb]
  rw[hb i x s _ cI h1 hs]
  cases c i x
  ·rw[cond_false,cond_false]
   exact dW hb r (i+1) s h2 (by omega)
  ·rw[cond_true,cond_true,dW hb r (i+1) (s++[f i x]) h2 (by simp;omega)]
   simp
theorem aik {a b k:Nat} (h:a+b≤4000000000000/k) (hk:0<k):decide ((a+b)*k≤4398046511104)=true:=by
 refine decide_eq_true ?_
 have:=Nat.mul_le_mul_right k h
 have:=Nat.div_mul_le_self 4000000000000 k
 omega
theorem Py {α:Type} (p:α→Bool) (l:List α):decide (lZ p l≥0)=l.any p:=by
 by_cases h:lZ p l<0
 ·rw[decide_eq_false (by omega)]
  symm
  rw[List.any_eq_false]
  intro x hx
  obtain⟨j,hj,rfl⟩:=List.mem_iff_getElem.1 hx
  rw[(vl h).2 j hj]
  simp
 ·rw[decide_eq_true (by omega)]
  symm
  rw[List.any_eq_true]
  obtain⟨k,hk,_,h1,_⟩:=cp h
  exact⟨l[k],List.getElem_mem hk,h1⟩
theorem vm (n:Int):∀ (l:List Int) (i:Nat) (s:Nat),s+l.length≤maxLen→foldI (fun _ x s=>bif x==n then IntKind.wrap .i64 (s+1) else s) l i (s:Int)=((s+l.count n:Nat):Int)
 |[],_,_,_=>by simp[foldI]
 |x::r,i,s,h=>by
  simp only[foldI,List.count_cons]
  simp only[List.length_cons] at h
  have:=aW
  cases hx:x==n with
  |false=>simp only[cond_false];rw[vm n r (i+1) s (by omega)];simp
  |true=>
   simp only[cond_true,if_true]
   rw[wrap64 (by omega) (by omega),show((s:Int)+1)=((s+1:Nat):Int) by omega,vm n r (i+1) (s+1) (by omega)]
   congr 1
   omega
theorem zV {b:List Int} (hb:b.Nodup):∀ (a:List Int),(∀ x∈a,x∈b)→(b.map fun x=>a.count x).sum=a.length
 |[],_=>by
  have:∀ l:List Int,(l.map fun x=>([]:List Int).count x).sum=0:=by
   intro l
   induction l with
   |nil=>rfl
   |cons x r ih=>rw[List.map_cons,List.sum_cons,ih];simp
  rw[this];rfl
 |y::a,h=>by
  have ih:=zV hb a (fun x hx=>h x (by simp[hx]))
  have hy:=h y (by simp)
  have key:∀ l:List Int,(l.map fun x=>(y::a).count x).sum=(l.map fun x=>a.count x).sum+l.count y:=by
   intro l
   induction l with
   |nil=>rfl
   |cons x r ihl=>
    rw[List.map_cons,List.sum_cons,ihl,List.map_cons,List.sum_cons,List.count_cons,List.count_cons]
    by_cases BI:y=x
    ·subst BI;simp;omega
    ·have h1:(y==x)=false:=by simpa using BI
     have h2:(x==y)=false:=by simpa using fun e=>BI e.symm
     rw[h1,h2];simp;omega
  rw[key,ih,List.length_cons]
  have:b.count y=1:=by
   have h1:=List.count_pos_iff.2 hy
   have h2:=List.nodup_iff_count.1 hb y
   omega
  omega
theorem Xp {b:List Int} {f:Int→Nat} (h1:∀ x∈b,f x≤1) (h2:(b.map f).sum=b.length):∀ x∈b,f x=1:=by
 have le:∀ l:List Int,(∀ x∈l,f x≤1)→(l.map f).sum≤l.length:=by
  intro l
  induction l with
  |nil=>intro _;simp
  |cons x r ih=>intro h;have:=ih (fun y hy=>h y (by simp[hy]));have:=h x (by simp);simp;omega
 induction b with
 |nil=>intro x hx;cases hx
 |cons y r ih=>
  have hr:=le r (fun x hx=>h1 x (by simp[hx]))
  have hy:=h1 y (by simp)
  simp only[List.map_cons,List.sum_cons,List.length_cons] at h2
  intro x hx
  rcases List.mem_cons.1 hx with rfl |hx
  ·omega
  ·exact ih (fun x hx=>h1 x (by simp[hx])) (by omega) x hx
theorem Hz {a b:List Int} (hb:b.Nodup) (h:∀ x∈a,x∈b):(∀ x∈b,a.count x=1)↔a.Nodup∧a.length=b.length:=by
 have hs:=zV hb a h
 constructor
 ·intro h1
  refine⟨List.nodup_iff_count.2 fun x=> ?_, ?_⟩
  ·by_cases hx:x∈a
   ·rw[h1 x (h x hx)];exact Nat.le_refl _
   ·rw[List.count_eq_zero_of_not_mem hx];omega
  ·have key:∀ l:List Int,(∀ x∈l,a.count x=1)→(l.map fun x=>a.count x).sum=l.length:=by
    intro l
    induction l with
    |nil=>intro _;rfl
    |cons x r ih=>intro h;simp[ih (fun y hy=>h y (by simp[hy])),h x (by simp)];omega
   rw[key b h1] at hs
   exact hs.symm
 ·intro ⟨h1,h2⟩
  exact Xp (fun x _=>List.nodup_iff_count.1 h1 x) (by rw[hs,h2])
end Go.Pv
namespace Go.Pv.R
set_option linter.unusedVariables false
set_option linter.unusedSimpArgs false
abbrev bu:=bn
abbrev cN:=cz
theorem CY {l:List Int} {n:Int} (h:l.length≤maxLen):qi l n=(l.count n:Int):=by
 have:=vm n l 0 0 (by omega)
 rw[Nat.zero_add] at this
 exact this
def pc (l:List Int) (n:Int):Bool:=l.any fun x=>x==n
theorem jC {l:List Int} {n:Int}:pc l n=true↔n∈l:=by
 unfold pc
 rw[List.any_eq_true]
 constructor
 ·rintro⟨x,hx,h⟩
  have:x=n:=by simpa using h
  exact this▸hx
 ·intro h;exact⟨n,h,by simp⟩
theorem sS {N:Nat} {l:List Int} {n:Int} {kf:Bool→Option af} (hl:l.length≤maxLen) (hN:l.length<N):KQ N l n kf=kf (pc l n):=by
 unfold KQ
 rw[SL hl hN,uc (p:=fun x:Int=>x==n) (kf:=fun _=>kf true) (fun i x next=>rfl)]
 unfold pc
 rw[←Py]
 unfold lZ
 cases jV (fun x:Int=>x==n) l 0
 ·rfl
 ·rw[decide_eq_true (by simp)]
def eC (l:List bu) (id:Int):Int:=lZ (fun x:bu=>x.1==id) l
theorem Tg {N:Nat} {l:List bu} {id:Int} {kf:Int→Option af} (hl:l.length≤maxLen) (hN:l.length<N):R0 N l id kf=kf (eC l id):=by
 unfold R0
 rw[SN hl hN,uc (p:=fun x:bu=>x.1==id) (kf:=fun i=>kf (i:Int)) (fun i x next=>rfl)]
 unfold eC lZ
 cases jV (fun x:bu=>x.1==id) l 0<;>rfl
def M1 (s:List Int):Bool:=allI (fun i y=>ic y 1 99&&(decide (i=0)||decide (s.getD (i - 1) 0<y))) s 0
def sT (l:List bu) (i:Nat) (x:bu):Bool:=ic x.1 1 99&&(ic x.2.1 1 99&&((decide (i=0)||decide ((l.getD (i - 1) ar).1<x.1))&&M1 x.2.2))
def cX (l:List bu):Bool:=decide (l.length≤10)&&allI (sT l) l 0
theorem acn {α:Type} {l:List α} {i:Nat} {z:α} {g:α→Int} {y:Int} {A B:Option af} (hi:i<l.length) (hl:l.length≤maxLen):(bif (decide ((i:Int)>(0:Int))) then
    bif (bw (IntKind.wrap .i64 ((i:Int) - (1:Int))) (List.length l)) then
     bif (decide (y≤g (List.getD l (Int.toNat (IntKind.wrap .i64 ((i:Int) - (1:Int)))) z))) then A else B
    else none
   else B)=bif (decide (i=0)||decide (g (l.getD (i - 1) z)<y)) then B else A:=by
 by_cases h0:i=0
 ·subst h0;simp
 ·rw[decide_eq_true (show(i:Int)>0 by omega),cond_true,qQ (by omega) hi hl,aM (by omega),cond_true,Int.toNat_natCast,decide_eq_false h0,Bool.false_or]
  by_cases hc:g (l.getD (i - 1) z)<y
  ·rw[decide_eq_false (by omega),decide_eq_true hc];rfl
  ·rw[decide_eq_true (by omega),decide_eq_false hc];rfl
theorem M3 {α:Type} {l:List α} {i:Nat} {z:α} {g:α→Int} {y:Int} {A B:Option af} (hi:i<l.length) (hl:l.length≤maxLen):(bif (decide ((i:Int)>(0:Int))) then
    bif (bw (IntKind.wrap .i64 ((i:Int) - (1:Int))) (List.length l)) then
     bif (decide (g (List.getD l (Int.toNat (IntKind.wrap .i64 ((i:Int) - (1:Int)))) z)≥y)) then A else B
    else none
   else B)=bif (decide (i=0)||decide (g (l.getD (i - 1) z)<y)) then B else A:=acn hi hl
theorem K7 {N:Nat} {l:List bu} {kf:Bool→Option af} (hl:l.length≤maxLen) (hm:∀ x∈l,x.2.2.length≤maxLen∧x.2.2.length<N) (hN:l.length<N):S71 N l kf=kf (cX l):=by
 unfold S71
 rw[SJ hl hN,mB (l:=l) (p:=sT l) (kf:=kf false) (fun i x next h e=> ?_) l 0 rfl]
 ·unfold cX
  cases allI (sT l) l 0
  ·simp
  ·simp only[cond_true,Bool.and_true]
   congr 1
   apply Bool.eq_iff_iff.2
   simp
   omega
 ·have hx:x∈l:=by rw[←e];exact List.getElem_mem h
  obtain⟨m1,m2⟩:=hm x hx
  have inner:jM N l (i:Int) N next kf (0:Int)=bif M1 x.2.2 then next else kf false:=by
   have hg:List.getD l (Int.toNat (i:Int)) ar=x:=by rw[Int.toNat_natCast,au _ _ h,e]
   rw[SI (aM h) (by rw[hg];exact m1) (by rw[hg];exact m2)]
   simp only[hg]
   rw[mB (l:=x.2.2) (p:=fun i y=>ic y 1 99&&(decide (i=0)||decide (x.2.2.getD (i - 1) 0<y))) (kf:=kf false) (fun j y next' hj ej=> ?_) x.2.2 0 rfl]
   ·rfl
   ·rw[lY]
    have:=M3 (l:=x.2.2) (z:=(0:Int)) (g:=fun x=>x) (y:=y) (A:=kf false) (B:=next') hj m1
    rw[this]
    cases ic y 1 99<;>simp
  simp only[lY,inner]
  have ho:=fun A B=>M3 (l:=l) (z:=ar) (g:=fun x=>x.1) (y:=x.1) (A:=A) (B:=B) h hl
  simp only[ho]
  unfold sT
  cases ic x.1 1 99<;>simp
  cases ic x.2.1 1 99<;>simp
  cases (decide (i=0)||decide ((l[i - 1]?.getD ar).1<x.1))<;>simp
def CZ (l:List az) (id:Int):Int:=(l.getD (aF l id).toNat ab).2.1
def ail (l:List az) (id:Int):List Int:=(l.getD (aF l id).toNat ab).met
def ud (l:List az) (a b:Int):Bool:=decide (aF l a≥0)&&pc (ail l a) b
def de (l:List az) (a b:Int):Bool:=aD l&&(decide (aF l a≥0)&&(decide (aF l b≥0)&&((aF l a != aF l b)&&((CZ l a != CZ l b)&& !ud l a b))))
theorem jD {l:List az} {id:Int} (h:aF l id≥0):bw (aF l id) l.length=true∧(aF l id).toNat<l.length:=by
 obtain⟨k,hk,e,_⟩:=cp (p:=fun x:az=>x.1==id) (l:=l) (by unfold aF at h;omega)
 have e:aF l id=(k:Int):=e
 rw[e]
 exact⟨aM hk,by simpa using hk⟩
theorem Xq {N:Nat} {l:List az} {a b:Int} {kf:Bool→Option af} (hl:l.length≤maxLen) (hm:∀ x∈l,x.met.length≤maxLen∧x.met.length<N) (hN:l.length<N):Xf N l a b kf=kf (ud l a b):=by
 unfold Xf ud
 rw[mU hl hN]
 by_cases h:aF l a≥0
 ·obtain⟨h1,h2⟩:=jD h
  have hx:l.getD (aF l a).toNat ab∈l:=by rw[au _ _ h2];exact List.getElem_mem h2
  obtain⟨m1,m2⟩:=hm _ hx
  rw[decide_eq_true h,cond_true,h1,cond_true,sS m1 m2]
  rfl
 ·rw[decide_eq_false h];rfl
theorem Th {N:Nat} {l:List az} {a b:Int} {kf:Bool→Option af} (hl:l.length≤maxLen) (hm:∀ x∈l,x.met.length≤maxLen∧x.met.length<N) (hN:l.length<N):S92 N l a b kf=kf (de l a b):=by
 unfold S92 de
 rw[mU hl hN,mU hl hN,mV hl hm hN]
 cases aD l
 ·rfl
 by_cases ha:aF l a≥0
 rotate_left
 ·rw[decide_eq_false ha];rfl
 by_cases hb:aF l b≥0
 rotate_left
 ·rw[decide_eq_true ha,decide_eq_false hb];rfl
 rw[decide_eq_true ha,decide_eq_true hb,(jD ha).1,(jD hb).1,Xq hl hm hN]
 simp only[cond_true,Bool.true_and]
 cases aF l a != aF l b
 ·rfl
 unfold CZ
 cases (l.getD (aF l a).toNat ab).2.1 != (l.getD (aF l b).toNat ab).2.1<;>rfl
def Ti (t:List az) (j:bu) (id:Int):Bool:=decide (aF t id≥0)&&((CZ t id != j.2.1)&& !pc j.2.2 id)
def gW (t:List az) (j:bu) (p:cN):Bool:=Ti t j p.1&&Ti t j p.2
theorem Tj {N:Nat} {t:List az} {j:bu} {p:cN} {kf:Bool→Option af} (hl:t.length≤maxLen) (hN:t.length<N) (h1:j.2.2.length≤maxLen) (h2:j.2.2.length<N):S96 N t j p kf=kf (gW t j p):=by
 unfold S96 gW Ti
 rw[mU hl hN,mU hl hN]
 by_cases ha:aF t p.1≥0
 rotate_left
 ·rw[decide_eq_false ha];rfl
 by_cases hb:aF t p.2≥0
 rotate_left
 ·rw[decide_eq_true ha,decide_eq_false hb];simp
 rw[decide_eq_true ha,decide_eq_true hb,(jD ha).1,(jD hb).1,sS h1 h2]
 simp only[sS h1 h2,cond_true,Bool.true_and]
 unfold CZ
 cases (t.getD (aF t p.1).toNat ab).2.1 != j.2.1
 ·rfl
 cases (t.getD (aF t p.2).toNat ab).2.1 != j.2.1
 ·simp
 cases pc j.2.2 p.1<;>simp
end Go.Pv.R
namespace Go.Pv.R
set_option linter.unusedVariables false
set_option linter.unusedSimpArgs false
theorem Tk {N:Nat} {l:List az} {kf:Int→Option af} (hl:l.length≤maxLen) (hm:∀ x∈l,x.met.length≤maxLen∧x.met.length<N) (hN:l.length<N):YA N l kf=kf (bif aD l then foldI (fun _ (x:az) s=>IntKind.wrap .i64 (s+x.2.2.1)) l 0 0 else 0):=by
 unfold YA
 rw[SK hl hN]
 simp only[mV hl hm hN]
 cases aD l with
 |false=>cases l<;>rfl
 |true=>
  simp only[cond_true]
  rw[KN (fun _ (x:az) s=>IntKind.wrap .i64 (s+x.2.2.1)) (fun i x s next h e=>rfl)]
def ov (l:List az):Int:=bif aD l then foldI (fun _ (x:az) s=>IntKind.wrap .i64 (s+x.2.2.1)) l 0 0 else 0
abbrev gn:=a7
def dL (b:gn):Bool:=ic b.1 1 99&&(ic b.2.1 0 100&&(ic b.2.2 0 100&&(b.2.1 != b.2.2)))
theorem K8 {N:Nat} {b:gn} {kf:Bool→Option af}:YC N b kf=kf (dL b):=by
 unfold YC dL
 simp only[lY]
 cases ic b.1 1 99<;>simp
 cases ic b.2.1 0 100<;>simp
 cases ic b.2.2 0 100<;>simp
def eN (r:List cN):List Int:=r.flatMap fun p=>[p.1,p.2]
def iq (l:List az):List Int:=l.map fun x=>x.1
def fP (l:List az) (r:List cN):Bool:=r.all (fun p=>de l p.1 p.2)&&l.all (fun x=>decide ((eN r).count x.1=1))
theorem fQ {l:List az} {a b:Int} (h:de l a b=true):aD l=true∧a∈iq l∧b∈iq l∧a≠b:=by
 unfold de at h
 simp only[Bool.and_eq_true,decide_eq_true_eq] at h
 obtain⟨h0,ha,hb,mo,_⟩:=h
 have mem:∀ id:Int,aF l id≥0→id∈iq l:=fun id hid=>by
  obtain⟨k,hk,_,h1,_⟩:=cp (p:=fun x:az=>x.1==id) (l:=l) (by unfold aF at hid;omega)
  exact List.mem_map.2 ⟨l[k],List.getElem_mem hk,by simpa using h1⟩
 refine⟨h0,mem a ha,mem b hb,fun e=> ?_⟩
 subst e
 simp at mo
theorem jE {l:List az} (h:aD l=true):(iq l).Nodup:=by
 unfold aD at h
 simp only[Bool.and_eq_true] at h
 have hm:=sR h.2.1
 have key:∀ (n:Nat) (r:List az),l.drop n=r→(r.map fun x:az=>x.1).Nodup:=by
  intro n r
  induction r generalizing n with
  |nil=>intro _;exact List.nodup_nil
  |cons x r ih=>
   intro hd
   have cI:n<l.length:=by have:=congrArg List.length hd;simp at this;omega
   rw[List.drop_eq_getElem_cons cI] at hd
   injection hd with h1 h2
   rw[List.map_cons,List.nodup_cons]
   refine⟨fun hx=> ?_,ih (n+1) h2⟩
   obtain⟨y,hy,e⟩:=List.mem_map.1 hx
   rw[←h2] at hy
   obtain⟨j,hj,rfl⟩:=List.mem_iff_getElem.1 hy
   rw[List.getElem_drop] at e
   have hj':n+1+j<l.length:=by simp at hj;omega
   have:=hm n (n+1+j) hj' (by omega)
   rw[au _ _ cI,h1] at this
   omega
 exact key 0 l rfl
theorem D6 {l:List az} {r:List cN}:(r.all (fun p=>de l p.1 p.2)&&(decide (eN r).Nodup&&(aD l&&decide ((eN r).length=l.length))))=fP l r:=by
 unfold fP
 cases fq:r.all (fun p=>de l p.1 p.2) with
 |false=>rfl
 |true=>
  rw[Bool.true_and,Bool.true_and]
  rw[List.all_eq_true] at fq
  have BM:∀ x∈eN r,x∈iq l:=fun x hx=>by
   obtain⟨p,hp,hx⟩:=List.mem_flatMap.1 hx
   obtain⟨_,h1,h2,_⟩:=fQ (fq p hp)
   simp at hx
   rcases hx with rfl |rfl
   ·exact h1
   ·exact h2
  cases ht:aD l with
  |true=>
   have:=Hz (jE ht) BM
   apply Bool.eq_iff_iff.2
   rw[List.all_eq_true,Bool.true_and,Bool.and_eq_true,decide_eq_true_eq,decide_eq_true_eq]
   rw[show(iq l).length=l.length by simp[iq]] at this
   rw[←this]
   constructor
   ·intro h x hx;exact decide_eq_true (h x.1 (List.mem_map.2 ⟨x,hx,rfl⟩))
   ·intro h x hx
    obtain⟨y,hy,rfl⟩:=List.mem_map.1 hx
    simpa using h y hy
  |false=>
   -- then there are no pairs, and there are teams
   cases r with
   |cons p r=>have:=(fQ (fq p (by simp))).1;rw[ht] at this;cases this
   |nil=>
    cases l with
    |nil=>simp[aD,allI] at ht
    |cons x l=>simp[eN]
theorem aco {N:Nat} {l:List az} {r:List cN} {kf:Bool→Option af} (hl:l.length≤maxLen) (hm:∀ x∈l,x.met.length≤maxLen∧x.met.length<N) (hN:l.length<N) (hr:r.length≤1048576) (hrN:2*r.length<N):S74 N l r kf=kf (fP l r):=by
 have hML:=aW
 unfold S74
 rw[SM (by omega) (by omega)]
 have key:∀ (q:List cN) (i:Nat) (s:List Int) (cW:List Int→Option af),r.drop i=q→s.length=2*i→s.Nodup→eh (fun(i:Nat) (x:cz) (bD:List Int) (next:List Int→Option af)=>
    S92 N l x.1 x.2 (fun(Hi:Bool)=>
     bif (!Hi) then
      kf false
     else
      KQ N bD x.1 (fun(Hj:Bool)=>
       bif Hj then
        kf false
       else
        KQ N bD x.2 (fun(Hk:Bool)=>
         bif Hk then
          kf false
         else
          bif (decide ((List.length bD+List.length [x.1,x.2])*1≤4398046511104)) then
           next (bD++[x.1,x.2])
          else none)))) cW q i s=bif q.all (fun p=>de l p.1 p.2)&&decide (s++eN q).Nodup then cW (s++eN q) else kf false:=by
  intro q
  induction q with
  |nil=>intro i s cW _ _ Ch;simp[eh,eN,Ch]
  |cons p q ih=>
   intro i s cW hd hs Ch
   have cI:i<r.length:=by have:=congrArg List.length hd;simp at this;omega
   rw[List.drop_eq_getElem_cons cI] at hd
   injection hd with h1 h2
   simp only[eh]
   rw[Th hl hm hN]
   cases hmm:de l p.1 p.2 with
   |false=>simp[hmm]
   |true=>
    have mo:=(fQ hmm).2.2.2
    have BH:s.length≤maxLen∧s.length<N:=by omega
    have ajL:s++eN (p::q)=(s++[p.1,p.2])++eN q:=by simp[eN]
    simp only[Bool.not_true,cond_false]
    rw[sS BH.1 BH.2]
    cases PY:pc s p.1 with
    |true=>
     have lU:=jC.1 PY
     have: ¬(s++eN (p::q)).Nodup:=fun h=>by
      rw[List.nodup_append] at h
      exact h.2.2 p.1 lU p.1 (by simp[eN]) rfl
     rw[decide_eq_false this]
     simp
    |false=>
     rw[cond_false,sS BH.1 BH.2]
     cases h2':pc s p.2 with
     |true=>
      have lU:=jC.1 h2'
      have: ¬(s++eN (p::q)).Nodup:=fun h=>by
       rw[List.nodup_append] at h
       exact h.2.2 p.2 lU p.2 (by simp[eN]) rfl
      rw[decide_eq_false this]
      simp
     |false=>
      have iN:decide ((List.length s+List.length [p.1,p.2])*1≤4398046511104)=true:=decide_eq_true (by simp;omega)
      have n1:p.1∉s:=fun h=>by rw[jC.2 h] at PY;cases PY
      have n2:p.2∉s:=fun h=>by rw[jC.2 h] at h2';cases h2'
      have Qh:(s++[p.1,p.2]).Nodup:=by
       rw[List.nodup_append]
       refine⟨Ch, ?_, ?_⟩
       ·rw[List.nodup_cons]
        exact⟨by simpa using mo,by simp⟩
       ·intro a ha b hb e
        subst e
        simp at hb
        rcases hb with rfl |rfl
        ·exact n1 ha
        ·exact n2 ha
      rw[cond_false,iN,cond_true,ih (i+1) _ cW h2 (by simp;omega) Qh,ajL]
      simp[hmm]
 refine Eq.trans (key r 0 [] _ rfl (by simp) List.nodup_nil) ?_
 rw[←D6]
 rw[List.nil_append]
 cases r.all (fun p=>de l p.1 p.2)
 ·rfl
 cases decide (eN r).Nodup
 ·rfl
 simp only[Bool.true_and,cond_true]
 rw[mV hl hm hN]
 cases aD l
 ·rfl
 simp only[cond_true,Bool.true_and]
 congr 1
 apply Bool.eq_iff_iff.2
 rw[beq_iff_eq,decide_eq_true_eq]
 omega
theorem zW {l:List bu} {id:Int} (h:eC l id≥0):bw (eC l id) l.length=true∧(eC l id).toNat<l.length:=by
 obtain⟨k,hk,e,_⟩:=cp (p:=fun x:bu=>x.1==id) (l:=l) (by unfold eC at h;omega)
 have e:eC l id=(k:Int):=e
 rw[e]
 exact⟨aM hk,by simpa using hk⟩
def zX (t:List az) (l:List bu) (r:List cN) (ids:List Int) (i:Nat):Bool:=decide (eC l (ids.getD i 0)≥0)&&(!pc (ids.take i) (ids.getD i 0)&&gW t (l.getD (eC l (ids.getD i 0)).toNat ar) (r.getD i gU))
def ek (t:List az) (l:List bu) (r:List cN) (ids:List Int):Bool:=decide (ids.length=r.length)&&(cX l&&allI (fun i _=>zX t l r ids i) r 0)
theorem acp {N:Nat} {t:List az} {l:List bu} {r:List cN} {ids:List Int} {kf:Bool→Option af} (ht:t.length≤maxLen) (htN:t.length<N) (hl:l.length≤maxLen) (hm:∀ x∈l,x.2.2.length≤maxLen∧x.2.2.length<N) (hN:l.length<N)
  (hr:r.length≤maxLen) (hrN:r.length<N):S75 N t l r ids kf=kf (ek t l r ids):=by
 unfold S75 ek
 by_cases hlen:ids.length=r.length
 rotate_left
 ·have:((ids.length:Int) != (r.length:Int))=true:=by rw[bne_iff_ne];omega
  rw[this,decide_eq_false hlen];rfl
 have:((ids.length:Int) != (r.length:Int))=false:=by rw[hlen];exact bne_self_eq_false _
 rw[this,decide_eq_true hlen,cond_false,K7 hl hm hN]
 cases cX l
 ·rfl
 simp only[Bool.not_true,cond_false,Bool.true_and]
 rw[SO hr hrN,mB (l:=r) (p:=fun i _=>zX t l r ids i) (kf:=kf false) (fun i x next h e=> ?_) r 0 rfl]
 ·cases allI (fun i _=>zX t l r ids i) r 0<;>rfl
 ·have hi:i<ids.length:=by omega
  have ajM:(decide ((0:Int)≤(0:Int))&&decide ((0:Int)≤(i:Int))&&decide ((i:Int)≤(List.length ids:Int)))=true:=by simp;omega
  rw[aM hi,cond_true,ajM]
  simp only[Int.toNat_natCast,cond_true]
  rw[Tg hl hN]
  unfold zX
  by_cases hf:eC l (ids.getD i 0)≥0
  rotate_left
  ·rw[decide_eq_false hf,decide_eq_true (by omega)];rfl
  obtain⟨f1,f2⟩:=zW hf
  have hx:l.getD (eC l (ids.getD i 0)).toNat ar∈l:=by rw[au _ _ f2];exact List.getElem_mem f2
  obtain⟨m1,m2⟩:=hm _ hx
  rw[decide_eq_true hf,decide_eq_false (by omega),cond_false]
  have Gi:(List.drop (Int.toNat 0) (List.take i ids))=ids.take i:=rfl
  rw[Gi,sS (by simp;omega) (by simp;omega),f1]
  cases pc (ids.take i) (ids.getD i 0)
  ·rw[cond_false,cond_true,Tj ht htN m1 m2]
   have hrx:r.getD i gU=x:=by rw[au _ _ h,e]
   rw[hrx]
   cases gW t (l.getD (eC l (ids.getD i 0)).toNat ar) x<;>rfl
  ·rfl
end Go.Pv.R
namespace Go.Pv.R
set_option linter.unusedVariables false
set_option linter.unusedSimpArgs false
abbrev aU:=aa
structure bZ (c:aU) (N:Nat):Prop where
 tl:c.1.length≤maxLen
 tm:∀ x:az,x∈c.1→x.met.length≤maxLen∧x.met.length<N
 tN:c.1.length<N
 jl:c.2.1.length≤maxLen
 jm:∀ x∈c.2.1,x.2.2.length≤maxLen∧x.2.2.length<N
 jN:c.2.1.length<N
 rl:c.2.2.1.length≤1048576
 rN:2*c.2.2.1.length<N
 sl:c.2.2.2.1.length≤1048576
 sN:c.2.2.2.1.length<N
 bl:c.2.2.2.2.1.length≤1048576
 bN:c.2.2.2.2.1.length<N
 ml:c.2.2.2.2.2.1.length≤1048576
 mN:c.2.2.2.2.2.1.length<N
 n8:8<N
 tb:c.1.length≤1048700
 YW:∀ x:az,x∈c.1→x.met.length≤1048700
 jb:c.2.1.length≤1048700
 YX:∀ x:bu,x∈c.2.1→x.2.2.length≤1048700
def ir (b:gn):Bool:=(decide ((b.1:Int)=0))&&((decide ((b.2.1:Int)=0))&&(decide ((b.2.2:Int)=0)))
def oA (c:aU) (i:Nat) (b:gn):Bool:=ir b||(dL b&&(b.1==c.2.2.2.1.getD i 0))
def c9 (c:aU):Bool:=aD c.1&&(cX c.2.1&&(ko c.2.2.2.2.2.1&&(decide (c.2.2.2.1.length=c.2.2.1.length)&&(decide (c.2.2.2.2.1.length=c.2.2.1.length)&&
 ((decide (c.2.2.1.length=0)||(fP c.1 c.2.2.1&&ek c.1 c.2.1 c.2.2.1 c.2.2.2.1))&&(allI (oA c) c.2.2.2.2.1 0&&(ic c.2.2.2.2.2.2 0 1000&&(ov c.1==c.2.2.2.2.2.2))))))))
theorem acq {a b:Nat}:((a:Int) != (b:Int))= !decide (a=b):=by
 apply Bool.eq_iff_iff.2
 simp
 omega
theorem C0 {N:Nat} {c:aU} {kf:Bool→Option af} (h:bZ c N) (hs:c.2.2.2.1.length=c.2.2.1.length) (hb:c.2.2.2.2.1.length=c.2.2.1.length):DV N c kf=kf (allI (oA c) c.2.2.2.2.1 0):=by
 have hm:=aW
 have:=h.bl
 unfold DV
 rw[SP (by omega) h.bN,mB (l:=c.2.2.2.2.1) (p:=oA c) (kf:=kf false) (fun i b next hi e=> ?_) c.2.2.2.2.1 0 rfl]
 ·cases allI (oA c) c.2.2.2.2.1 0<;>rfl
 ·rw[K8,aM (by omega),cond_true,Int.toNat_natCast]
  unfold oA ir
  cases (decide ((b.1:Int)=0))&&((decide ((b.2.1:Int)=0))&&(decide ((b.2.2:Int)=0)))
  ·simp only[Bool.not_false,cond_true,Bool.false_or]
   cases dL b
   ·rfl
   ·cases hc:b.1==c.2.2.2.1.getD i 0<;>simp only[bne,hc,Bool.not_true,Bool.not_false,cond_true,cond_false,Bool.and_true,Bool.and_false]
  ·rfl
theorem D7 {N:Nat} {c:aU} {kf:Bool→Option af} (h:bZ c N):S52 N c kf=kf (c9 c):=by
 have hm:=aW
 have JO:=h.ml
 have h8:=h.n8
 have hr:=h.rl
 have hrN:=h.rN
 unfold S52 c9
 rw[mV h.tl h.tm h.tN]
 cases aD c.1
 ·rfl
 simp only[Bool.not_true,cond_false,Bool.true_and]
 rw[K7 h.jl h.jm h.jN]
 cases cX c.2.1
 ·rfl
 simp only[Bool.not_true,cond_false,Bool.true_and]
 rw[Td (by omega) h.mN (by omega)]
 cases ko c.2.2.2.2.2.1
 ·rfl
 simp only[Bool.not_true,cond_false,Bool.true_and,acq]
 by_cases hs:c.2.2.2.1.length=c.2.2.1.length
 rotate_left
 ·rw[decide_eq_false hs];rfl
 by_cases hb:c.2.2.2.2.1.length=c.2.2.1.length
 rotate_left
 ·rw[decide_eq_false hb,decide_eq_true hs];rfl
 rw[decide_eq_true hs,decide_eq_true hb]
 simp only[Bool.not_true,cond_false,Bool.true_and,lY]
 cases ic c.2.2.2.2.2.2 0 1000
 ·simp
 simp only[Bool.not_true,cond_false,Bool.true_and]
 rw[Tk h.tl h.tm h.tN]
 show(bif ov c.1 != c.2.2.2.2.2.2 then kf false else _)=_
 cases ht:ov c.1==c.2.2.2.2.2.2
 ·simp only[bne,ht,Bool.not_false,cond_true,Bool.and_false]
 simp only[bne,ht,Bool.not_true,cond_false,Bool.and_true]
 by_cases h0:c.2.2.1.length=0
 ·rw[decide_eq_false (by omega),cond_false,C0 h hs hb,decide_eq_true h0]
  rfl
 ·rw[decide_eq_true (by omega),cond_true,aco h.tl h.tm h.tN h.rl h.rN,decide_eq_false h0]
  cases fP c.1 c.2.2.1
  ·rfl
  simp only[Bool.not_true,cond_false,Bool.true_and,Bool.false_or]
  rw[acp h.tl h.tN h.jl h.jm h.jN (by omega) (by omega)]
  cases ek c.1 c.2.1 c.2.2.1 c.2.2.2.1
  ·rfl
  simp only[Bool.not_true,cond_false,Bool.true_and]
  exact C0 h hs hb
def bc (c:aU):List Int:=cb (fun _ b=>ir b) (fun i _=>(i:Int)) c.2.2.2.2.1 0
theorem K9 {N:Nat} {c:aU} {kf:List Int→Option af} (h:bZ c N):S33 N c kf=kf (bc c):=by
 have hm:=aW
 have:=h.bl
 unfold S33
 rw[SU (by omega) h.bN,dW (l:=c.2.2.2.2.1) (c:=fun _ b=>ir b) (f:=fun i _=>(i:Int)) (fun i b s next hi e hs=> ?_) c.2.2.2.2.1 0 [] rfl (by simp),List.nil_append]
 ·rfl
 ·have iN:decide ((List.length s+List.length [(i:Int)])*1≤4398046511104)=true:=decide_eq_true (by simp;omega)
  rw[iN,cond_true]
  rfl
theorem acr {N:Nat} {c:aU} {kf:List Int→Option af} (h:bZ c N):I20 N c kf=kf (bc c):=by
 have hm:=aW
 have:=h.bl
 unfold I20
 rw[SZ (by omega) h.bN,dW (l:=c.2.2.2.2.1) (c:=fun _ b=>ir b) (f:=fun i _=>(i:Int)) (fun i b s next hi e hs=> ?_) c.2.2.2.2.1 0 [] rfl (by simp),List.nil_append]
 ·rfl
 ·have iN:decide ((List.length s+List.length [(i:Int)])*1≤4398046511104)=true:=decide_eq_true (by simp;omega)
  rw[iN,cond_true]
  rfl
def HA (l:List br):Nat:=(l.filter fun x=>x.2.1==4).length
theorem jg {a b c:Int}:ic a b c=true↔b≤a∧a≤c:=by unfold ic;simp
end Go.Pv.R
namespace Go.Pv
set_option linter.unusedVariables false
set_option linter.unusedSimpArgs false
end Go.Pv
namespace Go.Pv.R
set_option linter.unusedVariables false
set_option linter.unusedSimpArgs false
end Go.Pv.R
namespace Go.Pv.R
set_option linter.unusedVariables false
set_option linter.unusedSimpArgs false
theorem vn (c:aU):(bc c).length≤c.2.2.2.2.1.length:=fO _ _
end Go.Pv.R
namespace Go.Pv.R
set_option linter.unusedVariables false
set_option linter.unusedSimpArgs false
theorem wi {α:Type}:∀ (l:List α) (i:Nat),cb (fun _ _=>true) (fun _ x=>x) l i=l
 |[],_=>rfl
 |x::r,i=>by simp only[cb,cond_true];rw[wi r (i+1)]
theorem C1 {α:Type} {body:Nat→α→List α→(List α→Option af)→Option af} {cW:List α→Option af} {l:List α}
  (hb:∀ (i:Nat) (x:α) (s:List α) (next:List α→Option af) (h:i<l.length),l[i]=x→s.length≤i→body i x s next=next (s++[x])):eh body cW l 0 []=cW l:=by
 rw[dW (l:=l) (c:=fun _ _=>true) (f:=fun _ x=>x) (fun i x s next h e hs=>by rw[hb i x s next h e hs];rfl) l 0 [] rfl (by simp),wi,List.nil_append]
theorem zY {N:Nat} {l:List az} {kf:List az→Option af} (hl:l.length≤1048700) (hm:∀ x:az,x∈l→x.met.length≤1048700) (hN:l.length<N):Xb N l kf=kf l:=by
 have h0:=aW
 unfold Xb
 rw[SB (by omega) hN]
 refine C1 (l:=l) fun i x s next h e hs=> ?_
 have hx:x∈l:=by rw[←e];exact List.getElem_mem h
 have hxm:x.2.2.2.2.2.length≤1048700:=hm x hx
 rw[decide_eq_true (by simp only[List.length_nil];omega),decide_eq_true (by simp only[List.length_cons,List.length_nil];omega)]
 rfl
theorem La {N:Nat} {l:List bu} {kf:List bu→Option af} (hl:l.length≤1048700) (hm:∀ x:bu,x∈l→x.2.2.length≤1048700) (hN:l.length<N):S49 N l kf=kf l:=by
 have h0:=aW
 unfold S49
 rw[SG (by omega) hN]
 refine C1 (l:=l) fun i x s next h e hs=> ?_
 have hx:x∈l:=by rw[←e];exact List.getElem_mem h
 have hxm:x.2.2.length≤1048700:=hm x hx
 rw[decide_eq_true (by simp only[List.length_nil];omega),decide_eq_true (by simp only[List.length_cons,List.length_nil];omega)]
 rfl
theorem vo {N:Nat} {c:aU} {kf:aU→Option af} (h:bZ c N):P3 N c kf=kf c:=by
 have h0:=aW
 have h1:=h.rl
 have h2:=h.sl
 have h3:=h.bl
 have h4:=h.ml
 unfold P3
 rw[zY h.tb h.YW h.tN,La h.jb h.YX h.jN,decide_eq_true (by simp only[List.length_nil];omega),decide_eq_true (by simp only[List.length_nil];omega),decide_eq_true (by simp only[List.length_nil];omega),decide_eq_true (by simp only[List.length_nil];omega)]
 rfl
abbrev oD:=br
def HB (l:List oD):Int:=(l.getLast?.map fun x=>x.2.2.2).getD 0
theorem Tl {l:List oD} (h0:l≠[]):HB l=(List.getD l (l.length - 1) dT).2.2.2:=by
 unfold HB
 rw[List.getLast?_eq_getElem?]
 have h1:l.length - 1<l.length:=by
  cases l with
  |nil=>exact absurd rfl h0
  |cons x r=>simp
 rw[List.getD_eq_getElem?_getD,List.getElem?_eq_getElem h1]
 rfl
theorem Tm {l:List oD} {kf:Int→Option af} (hl:l.length≤maxLen):(bif ((List.length l:Int)==(0:Int)) then kf (0:Int) else
  bif (bw (IntKind.wrap .i64 ((List.length l:Int) - (1:Int))) (List.length l)) then kf (List.getD l (Int.toNat (IntKind.wrap .i64 ((List.length l:Int) - (1:Int)))) dT).2.2.2 else none)=kf (HB l):=by
 have hm:=aW
 cases l with
 |nil=>rfl
 |cons x r=>
  have e1:((List.length (x::r):Int)==(0:Int))=false:=by simp only[List.length_cons];exact beq_eq_false_iff_ne.2 (by omega)
  rw[wrap64 (n:=(List.length (x::r):Int) - 1) (by omega) (by omega)]
  have e2:(List.length (x::r):Int) - 1=((List.length (x::r) - 1:Nat):Int):=by simp only[List.length_cons];omega
  rw[e1,e2,aM (by simp),Tl (by simp)]
  simp only[cond_true,cond_false,Int.toNat_natCast]
theorem acs {N:Nat} {l:List oD} {kf:Int→Option af} (hl:l.length≤maxLen):S90 N l kf=kf (HB l):=Tm hl
def C2 (l:List oD) (cZ kD:Int):oD:=((l.length:Int)+1,(cZ,(kD,Hv (HB l) ((l.length:Int)+1,(cZ,(kD,0))))))
def mW (l:List oD) (cZ kD:Int):Bool:=ko (l++[C2 l cZ kD])
def iS (l:List oD) (cZ kD:Int):List oD:=bif mW l cZ kD then l++[C2 l cZ kD] else l
theorem Lb (l:List oD) (cZ kD:Int):(iS l cZ kD).length≤l.length+1:=by
 unfold iS
 cases mW l cZ kD<;>simp
theorem Pz {l:List oD} {cZ kD:Int} (h:mW l cZ kD=true):(iS l cZ kD).length≤200:=by
 unfold iS
 rw[h]
 unfold mW ko at h
 simp only[Bool.and_eq_true,decide_eq_true_eq] at h
 exact h.1
theorem Tn {N:Nat} {l:List oD} {cZ kD:Int} {kf:List oD→Bool→Option af} (hl:l.length≤1048576) (hN:l.length+1<N) (h4:4<N):S67 N l cZ kD kf=kf (iS l cZ kD) (mW l cZ kD):=by
 have hm:=aW
 unfold S67
 rw[acs (by omega),Tb h4,wrap64 (n:=(List.length l:Int)+1) (by omega) (by omega),decide_eq_true (by simp only[List.length_nil];omega)]
 simp only[List.nil_append,cond_true]
 rw[decide_eq_true (by simp only[List.length_cons,List.length_nil];omega),cond_true,Td (by simp only[List.length_append,List.length_cons,List.length_nil];omega) (by simp only[List.length_append,List.length_cons,List.length_nil];omega) h4]
 show(bif (!mW l cZ kD) then kf l false else kf (l++[C2 l cZ kD]) true)=_
 unfold iS
 cases mW l cZ kD<;>rfl
def qR (c:aU) (l:List oD):aU:=(c.1,(c.2.1,(c.2.2.1,(c.2.2.2.1,(c.2.2.2.2.1,(l,c.2.2.2.2.2.2))))))
def qj (c out:aU) (cZ kD:Int):Bool:=mW c.2.2.2.2.2.1 cZ kD&&(c9 c&&c9 (qR out (iS c.2.2.2.2.2.1 cZ kD)))
def rB (c out:aU) (cZ kD:Int):aU:=bif qj c out cZ kD then qR out (iS c.2.2.2.2.2.1 cZ kD) else c
theorem Lc {c:aU} {N:Nat} {l:List oD} (h:bZ c N) (hl:l.length≤200) (hN:200<N):bZ (qR c l) N:=
 ⟨h.tl,h.tm,h.tN,h.jl,h.jm,h.jN,h.rl,h.rN,h.sl,h.sN,h.bl,h.bN,by show l.length≤_;omega,by show l.length<_;omega,h.n8,h.tb,h.YW,h.jb,h.YX⟩
theorem vp {N:Nat} {c out:aU} {ok:Bool} {cZ kD:Int} {kf:aU→Bool→Option af} (h:bZ c N) (ho:ok=true→bZ out N) (hN:200<N) (hl:c.2.2.2.2.2.1.length+1<N):
  P4 N c out ok cZ kD kf=bif ok then kf (rB c out cZ kD) (qj c out cZ kD) else kf c false:=by
 have h8:=h.n8
 unfold P4
 rw[Tn h.ml hl (by omega)]
 simp only[vo h,D7 h]
 cases ok with
 |false=>rfl
 |true=>
  unfold rB qj
  cases hw:mW c.2.2.2.2.2.1 cZ kD with
  |false=>rfl
  |true=>
   cases hc:c9 c with
   |false=>rfl
   |true=>
    have:=D7 (N:=N) (kf:=fun r=>bif !r then kf c false else kf (qR out (iS c.2.2.2.2.2.1 cZ kD)) true) (Lc (ho rfl) (Pz hw) hN)
    refine this.trans ?_
    simp only[Bool.true_and]
    cases c9 (qR out (iS c.2.2.2.2.2.1 cZ kD))<;>rfl
theorem qk {c:aU} (h:c9 c=true):c.2.2.2.1.length=c.2.2.1.length∧c.2.2.2.2.1.length=c.2.2.1.length:=by
 unfold c9 at h
 simp only[Bool.and_eq_true,decide_eq_true_eq] at h
 exact⟨h.2.2.2.1,h.2.2.2.2.1⟩
def zZ (c:aU) (p f s:Int):gn:=(c.2.2.2.1.getD p.toNat 0,(f,s))
def Xr (c:aU) (l:List gn):aU:=(c.1,(c.2.1,(c.2.2.1,(c.2.2.2.1,(l,c.2.2.2.2.2)))))
def xU (c:aU) (p f s:Int):Bool:=c9 c&&((decide (0≤p)&&decide (p<c.2.2.1.length))&&(ir (c.2.2.2.2.1.getD p.toNat aT)&&dL (zZ c p f s)))
def ue (c:aU) (p f s:Int):aU:=Xr c (c.2.2.2.2.1.set p.toNat (zZ c p f s))
theorem To {c:aU} {N:Nat} (h:bZ c N) (p f s:Int):bZ (ue c p f s) N:=
 ⟨h.tl,h.tm,h.tN,h.jl,h.jm,h.jN,h.rl,h.rN,h.sl,h.sN,by show(List.set _ _ _).length≤_;rw[List.length_set];exact h.bl,by show(List.set _ _ _).length<_;rw[List.length_set];exact h.bN,h.ml,h.mN,h.n8,h.tb,h.YW,h.jb,h.YX⟩
theorem acu {N:Nat} {c:aU} {p f s:Int} {kf:aU→Bool→Option af} (h:bZ c N) (hN:200<N) (hl:c.2.2.2.2.2.1.length+1<N):
  S34 N c p f s kf=bif xU c p f s then kf (rB c (ue c p f s) 4 (zZ c p f s).1) (qj c (ue c p f s) 4 (zZ c p f s).1) else kf c false:=by
 have hm:=aW
 have hr:=h.rl
 unfold S34
 rw[vo h,D7 h]
 unfold xU
 cases hc:c9 c with
 |false=>rfl
 |true=>
  obtain⟨l1,l2⟩:=qk hc
  simp only[Bool.not_true,cond_false,Bool.true_and]
  rw[wrap64 (n:=(List.length c.2.2.1:Int) - 1) (by omega) (by omega),lY]
  by_cases hp:0≤p∧p<c.2.2.1.length
  rotate_left
  ·have e1:ic p 0 ((List.length c.2.2.1:Int) - 1)=false:=by
    cases hx:ic p 0 ((List.length c.2.2.1:Int) - 1) with
    |false=>rfl
    |true=>rw[jg] at hx;exact absurd ⟨hx.1,by omega⟩ hp
   have e2:(decide (0≤p)&&decide (p<c.2.2.1.length))=false:=by
    cases hx:(decide (0≤p)&&decide (p<c.2.2.1.length)) with
    |false=>rfl
    |true=>simp only[Bool.and_eq_true,decide_eq_true_eq] at hx;exact absurd hx hp
   rw[e1,e2]
   rfl
  ·obtain⟨hp0,hp1⟩:=hp
   obtain⟨i,rfl⟩:∃ i:Nat,p=(i:Int):=⟨p.toNat,by omega⟩
   have e1:ic (i:Int) 0 ((List.length c.2.2.1:Int) - 1)=true:=jg.2 ⟨by omega,by omega⟩
   have e2:(decide (0≤(i:Int))&&decide ((i:Int)<c.2.2.1.length))=true:=by simp only[Bool.and_eq_true,decide_eq_true_eq];omega
   rw[e1,e2]
   simp only[Bool.not_true,cond_false,Bool.true_and,Int.toNat_natCast,List.length_set]
   rw[aM (show i<c.2.2.2.2.1.length by omega),aM (show i<c.2.2.2.1.length by omega)]
   simp only[cond_true]
   have e3:List.getD (List.set c.2.2.2.2.1 i (List.getD c.2.2.2.1 i (0:Int),(f,s))) i aT=(List.getD c.2.2.2.1 i (0:Int),(f,s)):=by
    rw[List.getD_eq_getElem?_getD,List.getElem?_set_self (by omega)]
    rfl
   rw[e3,K8]
   show(bif !ir (List.getD c.2.2.2.2.1 i aT) then kf c false else _)=_
   cases ir (List.getD c.2.2.2.2.1 i aT) with
   |false=>rfl
   |true=>
    simp only[Bool.not_true,cond_false,Bool.true_and]
    exact vp (out:=ue c (i:Int) f s) h (fun _=>To h _ _ _) hN hl
end Go.Pv.R
namespace Go.Pv
set_option linter.unusedVariables false
set_option linter.unusedSimpArgs false
abbrev PA (l:List Int):Prop:=l.Pairwise (· < ·)
def l4:List Int→Int→List Int
 |[],n=>[n]
 |x::r,n=>bif decide (x<n) then x::l4 r n else bif x==n then x::r else n::x::r
theorem HC:∀ (l:List Int) (n x:Int),x∈l4 l n↔x=n∨x∈l
 |[],n,x=>by simp[l4]
 |y::r,n,x=>by
  simp only[l4]
  by_cases h:y<n
  ·rw[decide_eq_true h,cond_true,List.mem_cons,HC r n x,List.mem_cons]
   constructor
   ·rintro(h |h |h)<;>simp[h]
   ·rintro(h |h |h)<;>simp[h]
  ·rw[decide_eq_false h,cond_false]
   by_cases e:y=n
   ·subst e;simp
   ·rw[beq_eq_false_iff_ne.2 e,cond_false];simp
theorem z6:∀ {l:List Int} {n:Int},PA l→PA (l4 l n)
 |[],n,_=>by simp[l4,PA]
 |y::r,n,h=>by
  rw[PA,List.pairwise_cons] at h
  simp only[l4]
  by_cases hy:y<n
  ·rw[decide_eq_true hy,cond_true,PA,List.pairwise_cons]
   refine⟨fun z hz=> ?_,z6 h.2⟩
   rcases(HC r n z).1 hz with e |e
   ·omega
   ·exact h.1 z e
  ·rw[decide_eq_false hy,cond_false]
   by_cases e:y=n
   ·subst e
    simp only[beq_self_eq_true,cond_true,PA,List.pairwise_cons]
    exact h
   ·rw[beq_eq_false_iff_ne.2 e,cond_false,PA,List.pairwise_cons,List.pairwise_cons]
    refine⟨fun z hz=> ?_,h⟩
    rcases List.mem_cons.1 hz with e2 |e2
    ·omega
    ·have:=h.1 z e2;omega
theorem uf:∀ (l:List Int) (n:Int),(l4 l n).length≤l.length+1
 |[],n=>by simp[l4]
 |y::r,n=>by
  simp only[l4]
  have:=uf r n
  cases decide (y<n) with
  |true=>simp only[cond_true,List.length_cons];omega
  |false=>cases y==n<;>simp
end Go.Pv
namespace Go.Pv.R
set_option linter.unusedVariables false
set_option linter.unusedSimpArgs false
def fi:List Int→Int→Nat
 |[],_=>0
 |x::r,n=>bif decide (x<n) then fi r n+1 else 0
theorem M4:∀ (l:List Int) (n:Int),fi l n≤l.length
 |[],_=>Nat.le_refl _
 |x::r,n=>by
  simp only[fi]
  have:=M4 r n
  cases decide (x<n)<;>simp<;>omega
theorem HD:∀ (l:List Int) (n:Int),l4 l n=bif decide (fi l n<l.length)&&(l.getD (fi l n) 0==n) then l else l.take (fi l n)++[n]++l.drop (fi l n)
 |[],n=>rfl
 |x::r,n=>by
  by_cases h:x<n
  ·have hc:fi (x::r) n=fi r n+1:=by simp only[fi];rw[decide_eq_true h];rfl
   have hp:l4 (x::r) n=x::l4 r n:=by simp only[l4];rw[decide_eq_true h];rfl
   rw[hc,hp,HD r n]
   simp only[List.length_cons,List.getD_cons_succ,List.take_succ_cons,List.drop_succ_cons]
   rw[show decide (fi r n+1<r.length+1)=decide (fi r n<r.length) from decide_eq_decide.2 (by omega)]
   cases (decide (fi r n<r.length)&&(r.getD (fi r n) 0==n))<;>simp
  ·have hc:fi (x::r) n=0:=by simp only[fi];rw[decide_eq_false h];rfl
   have hp:l4 (x::r) n=bif x==n then x::r else n::x::r:=by simp only[l4];rw[decide_eq_false h];rfl
   rw[hc,hp]
   simp only[List.length_cons,List.getD_cons_zero,List.take_zero,List.drop_zero]
   rw[decide_eq_true (show 0<r.length+1 by omega),Bool.true_and]
   cases x==n<;>simp
theorem M5 {n:Int} {k:Int→Option af}:∀ (r:List Int) (i m:Nat),i+r.length=m→s4 (fun(i:Nat) (x:Int) (next:Option af)=>bif (decide (x<n)) then next else k (i:Int)) (k (m:Int)) r i=k ((i+fi r n:Nat):Int)
 |[],i,m,h=>by simp only[s4,fi];rw[←h];rfl
 |x::r,i,m,h=>by
  simp only[s4,fi]
  cases decide (x<n) with
  |true=>
   simp only[cond_true]
   rw[M5 r (i+1) m (by simp only[List.length_cons] at h;omega)]
   congr 1
   omega
  |false=>simp only[cond_false,Nat.add_zero]
theorem Tp {N:Nat} {l:List Int} {n:Int} {kf:List Int→Option af} (hl:l.length≤1048576) (hN:l.length<N):KW N l n kf=kf (l4 l n):=by
 have hm:=aW
 unfold KW
 rw[SX (by omega) hN]
 have hc:=M4 l n
 have h2:(decide ((List.length ([]:List Int)+List.length l)*1≤4398046511104))=true:=decide_eq_true (by simp only[List.length_nil];omega)
 have hj:vh l n kf (fi l n:Int)=kf (l.take (fi l n)++[n]++l.drop (fi l n)):=by
  unfold vh
  have d1:(decide ((0:Int)≤(0:Int))&&decide ((0:Int)≤(fi l n:Int))&&decide ((fi l n:Int)≤(List.length l:Int)))=true:=by simp;omega
  have d2:(decide ((0:Int)≤(fi l n:Int))&&decide ((fi l n:Int)≤(List.length l:Int))&&decide ((List.length l:Int)≤(List.length l:Int)))=true:=by simp;omega
  rw[d1,d2]
  have e1:List.drop (Int.toNat 0) (List.take (Int.toNat (fi l n:Int)) l)=l.take (fi l n):=by simp
  have e2:List.drop (Int.toNat (fi l n:Int)) (List.take (Int.toNat (List.length l:Int)) l)=l.drop (fi l n):=by simp
  rw[e1,e2]
  have l1:(l.take (fi l n)).length=fi l n:=by rw[List.length_take];omega
  have l2:(l.drop (fi l n)).length=l.length - fi l n:=List.length_drop
  rw[decide_eq_true (by simp only[List.length_nil];omega),decide_eq_true (by simp only[List.length_append,List.length_cons,List.length_nil];omega),decide_eq_true (by simp only[List.length_append,List.length_cons,List.length_nil];omega)]
  simp only[cond_true,List.nil_append]
 have:=M5 (n:=n) (k:=fun(mh:Int)=>
  bif (decide (mh<(List.length l:Int))) then
   bif (bw mh (List.length l)) then
    bif ((List.getD l (Int.toNat mh) (0:Int))==n) then
     bif (decide ((List.length ([]:(List Int))+List.length l)*1≤4398046511104)) then
      kf (([]:(List Int))++l)
     else none
    else
     vh l n kf mh
   else none
  else
   vh l n kf mh) l 0 l.length (by omega)
 refine this.trans ?_
 simp only[Nat.zero_add]
 rw[hj,HD]
 by_cases cI:fi l n<l.length
 ·rw[decide_eq_true (show(fi l n:Int)<(List.length l:Int) by omega),decide_eq_true cI,aM cI,Int.toNat_natCast,h2]
  simp only[cond_true,Bool.true_and,List.nil_append]
  cases List.getD l (fi l n) 0==n<;>rfl
 ·rw[decide_eq_false (show ¬(fi l n:Int)<(List.length l:Int) by omega),decide_eq_false cI]
  rfl
end Go.Pv.R
namespace Go.Pv.R
set_option linter.unusedVariables false
set_option linter.unusedSimpArgs false
theorem ug {α:Type} (l:List α) (k:Nat):List.drop (Int.toNat 0) (List.take k l)=l.take k∧List.drop k (List.take (List.length l) l)=l.drop k:=by simp
def vq (c:aU) (l:List az):aU:=(l,c.2)
def aim (c:aU) (k:Nat):aU:=vq c (c.1.take k++c.1.drop (k+1))
theorem D8 {c:aU} {N:Nat} {l:List az} (h:bZ c N) (hl:l.length≤1048700) (hN:l.length<N) (hm:∀ x:az,x∈l→x.met.length≤1048700∧x.met.length<N):bZ (vq c l) N:=by
 have h0:=aW
 exact⟨by show l.length≤_;omega,fun x hx=>⟨by have:=(hm x hx).1;omega,(hm x hx).2⟩,hN,h.jl,h.jm,h.jN,h.rl,h.rN,h.sl,h.sN,h.bl,h.bN,h.ml,h.mN,h.n8,hl,fun x hx=>(hm x hx).1,h.jb,h.YX⟩
def z7 (c:aU) (id:Int):Bool:=decide (0≤aF c.1 id)&&(decide (c.2.2.1.length=0)&&decide ((c.1.getD (aF c.1 id).toNat ab).2.2.2.2.2.length=0))
def z8 (c:aU) (id:Int):aU:=aim c (aF c.1 id).toNat
end Go.Pv.R
namespace Go.Pv.R
set_option linter.unusedVariables false
set_option linter.unusedSimpArgs false
end Go.Pv.R
namespace Go.Pv.R
set_option linter.unusedVariables false
set_option linter.unusedSimpArgs false
theorem acv {α:Type} {xs:List α} {x z:α} {g:α→Int} {k:Nat} (hk:k≤xs.length) (hm:∀ (j i:Nat) (hi:i<(xs.take k++[x]++xs.drop k).length),j<i→g ((xs.take k++[x]++xs.drop k).getD j z)<g (xs.take k++[x]++xs.drop k)[i]):
  ∀ (i:Nat) (hi:i<xs.length),g xs[i]≠g x:=by
 intro i hi he
 have hl:(xs.take k++[x]++xs.drop k).length=xs.length+1:=by simp only[List.length_append,List.length_take,List.length_drop,List.length_cons,List.length_nil];omega
 have cI:(xs.take k).length=k:=by rw[List.length_take];omega
 have hkx:∀ (h:k<(xs.take k++[x]++xs.drop k).length),(xs.take k++[x]++xs.drop k)[k]=x:=fun h=>by
  rw[List.getElem_append_left (by rw[List.length_append,cI];simp),List.getElem_append_right (by omega)]
  simp[cI]
 by_cases hik:i<k
 ·have h1:=hm i k (by omega) hik
  rw[au _ _ (by omega),hkx,List.getElem_append_left (by rw[List.length_append,cI];simp;omega),List.getElem_append_left (by omega),List.getElem_take] at h1
  omega
 ·have h1:=hm k (i+1) (by omega) (by omega)
  rw[au _ _ (by omega),hkx,List.getElem_append_right (by rw[List.length_append,cI];simp;omega),List.getElem_drop] at h1
  have e2:k+(i+1 - (xs.take k++[x]).length)=i:=by rw[List.length_append,cI];simp;omega
  simp only[e2] at h1
  omega
theorem z' {α:Type} {p:α→Bool} {k:Int→Option af}:∀ (r:List α) (i m:Nat),i+r.length=m→s4 (fun(i:Nat) (x:α) (next:Option af)=>bif p x then next else k (i:Int)) (k (m:Int)) r i=k ((i+(r.takeWhile p).length:Nat):Int)
 |[],i,m,h=>by
  simp only[List.length_nil,Nat.add_zero] at h
  subst h
  rfl
 |x::r,i,m,h=>by
  simp only[List.length_cons] at h
  simp only[s4,List.takeWhile_cons]
  cases hp:p x with
  |false=>rfl
  |true=>
   simp only[cond_true,if_true,List.length_cons]
   rw[z' r (i+1) m (by omega)]
   congr 2
   omega
theorem rC {α:Type} (p:α→Bool) (l:List α):(l.takeWhile p).length≤l.length:=(List.takeWhile_sublist p).length_le
def Tq (id dC:Int):az:=(id,(dC,(0,(0,(0,[])))))
def mX (l:List az) (id:Int):Nat:=(l.takeWhile fun x=>decide (x.1<id)).length
def qm (c:aU) (id dC:Int):aU:=vq c (c.1.take (mX c.1 id)++[Tq id dC]++c.1.drop (mX c.1 id))
theorem D9 (l:List az) (id:Int):mX l id≤l.length:=rC _ _
theorem Aa {α:Type} {xs:List α} {x y:α} {k:Nat} (h:y∈xs.take k++[x]++xs.drop k):y∈xs∨y=x:=by
 rcases List.mem_append.1 h with h |h
 ·rcases List.mem_append.1 h with h |h
  ·exact .inl (List.mem_of_mem_take h)
  ·exact .inr (List.mem_singleton.1 h)
 ·exact .inl (List.mem_of_mem_drop h)
theorem Tr {α:Type} {xs:List α} {x:α} {k:Nat} (hk:k≤xs.length):(xs.take k++[x]++xs.drop k).length=xs.length+1:=by
 simp only[List.length_append,List.length_take,List.length_drop,List.length_cons,List.length_nil];omega
theorem Tt {c:aU} {N:Nat} {id dC:Int} (h:bZ c N) (hb:c.1.length≤1048576) (hN:c.1.length+1<N):bZ (qm c id dC) N:=by
 have hl:=Tr (x:=Tq id dC) (D9 c.1 id)
 have h8:=h.n8
 refine D8 h (by omega) (by omega) fun x hx=> ?_
 rcases Aa hx with hx |rfl
 ·exact⟨h.YW x hx,(h.tm x hx).2⟩
 ·exact⟨by show(0:Nat)≤_;omega,by show(0:Nat)<_;omega⟩
theorem Tu {c:aU} {id dC:Int} (h:aD (qm c id dC).1=true):aF c.1 id<0:=by
 unfold aD at h
 simp only[Bool.and_eq_true] at h
 have hm:=sR h.2.1
 have mo:=acv (xs:=c.1) (x:=Tq id dC) (z:=ab) (g:=fun x:az=>x.1) (D9 c.1 id) hm
 by_cases hf:aF c.1 id<0
 ·exact hf
 ·obtain⟨k,hk,_,h1,_⟩:=cp (p:=fun x:az=>x.1==id) (l:=c.1) hf
  exact absurd (beq_iff_eq.1 h1) (mo k hk)
theorem PB {N:Nat} {c z:aU} {id dC:Int} {k:Int→Option af} (h:bZ c N):pW id dC c z c N k (0:Int)=k ((mX c.1 id:Nat):Int):=by
 rw[SQ h.tl h.tN,z' c.1 0 c.1.length (by omega),Nat.zero_add]
 rfl
theorem acw {N:Nat} {c:aU} {id dC:Int} {kf:aU→Bool→Option af} (h:bZ c N) (hb:c.1.length≤1048576) (hN1:c.1.length+1<N) (hN:200<N) (hl:c.2.2.2.2.2.1.length+1<N):
  S29 N c id dC kf=bif decide (c.2.2.1.length=0) then kf (rB c (qm c id dC) 1 id) (qj c (qm c id dC) 1 id) else kf c false:=by
 have hm:=aW
 have hk:=D9 c.1 id
 unfold S29
 rw[vo h,PB h]
 show(bif (decide ((0:Int)≤(0:Int))&&decide ((0:Int)≤((mX c.1 id:Nat):Int))&&decide (((mX c.1 id:Nat):Int)≤(List.length c.1:Int))) then _ else _)=_
 have d1:(decide ((0:Int)≤(0:Int))&&decide ((0:Int)≤((mX c.1 id:Nat):Int))&&decide (((mX c.1 id:Nat):Int)≤(List.length c.1:Int)))=true:=by simp;omega
 have d2:(decide ((0:Int)≤((mX c.1 id:Nat):Int))&&decide (((mX c.1 id:Nat):Int)≤(List.length c.1:Int))&&decide ((List.length c.1:Int)≤(List.length c.1:Int)))=true:=by simp;omega
 have l1:(c.1.take (mX c.1 id)).length≤c.1.length:=by rw[List.length_take];omega
 have l2:(c.1.drop (mX c.1 id)).length≤c.1.length:=by rw[List.length_drop];omega
 rw[d1,cond_true,Int.toNat_natCast,(ug c.1 (mX c.1 id)).1,zY (by omega) (fun x hx=>h.YW x (List.mem_of_mem_take hx)) (by omega),decide_eq_true (by simp only[List.length_cons,List.length_nil];omega),cond_true]
 show(bif (decide ((0:Int)≤((mX c.1 id:Nat):Int))&&decide (((mX c.1 id:Nat):Int)≤(List.length c.1:Int))&&decide ((List.length c.1:Int)≤(List.length c.1:Int))) then _ else _)=_
 rw[d2,cond_true,Int.toNat_natCast]
 show Xb N (List.drop (mX c.1 id) (List.take (List.length c.1) c.1)) _=_
 rw[(ug c.1 (mX c.1 id)).2,zY (by omega) (fun x hx=>h.YW x (List.mem_of_mem_drop hx)) (by omega),decide_eq_true (by simp only[List.length_append,List.length_cons,List.length_nil];omega),cond_true]
 unfold S48
 refine(vp (out:=qm c id dC) h (fun _=>Tt h hb hN1) hN hl).trans ?_
 by_cases hr:c.2.2.1.length=0
 ·rw[decide_eq_true hr,decide_eq_false (show ¬(List.length c.2.2.1:Int)>0 by omega)];rfl
 ·rw[decide_eq_false hr,decide_eq_true (show(List.length c.2.2.1:Int)>0 by omega)];rfl
def Ab (c:aU) (l:List bu):aU:=(c.1,(l,c.2.2))
theorem B3 {c:aU} {N:Nat} {l:List bu} (h:bZ c N) (hl:l.length≤1048700) (hN:l.length<N) (hm:∀ x:bu,x∈l→x.2.2.length≤1048700∧x.2.2.length<N):bZ (Ab c l) N:=by
 have h0:=aW
 exact⟨h.tl,h.tm,h.tN,by show l.length≤_;omega,fun x hx=>⟨by have:=(hm x hx).1;omega,(hm x hx).2⟩,hN,h.rl,h.rN,h.sl,h.sN,h.bl,h.bN,h.ml,h.mN,h.n8,h.tb,h.YW,hl,fun x hx=>(hm x hx).1⟩
def ain (id dC:Int):bu:=(id,(dC,[]))
def qn (l:List bu) (id:Int):Nat:=(l.takeWhile fun x=>decide (x.1<id)).length
def Ac (c:aU) (id dC:Int):aU:=Ab c (c.2.1.take (qn c.2.1 id)++[ain id dC]++c.2.1.drop (qn c.2.1 id))
theorem M6 (l:List bu) (id:Int):qn l id≤l.length:=rC _ _
theorem PC {c:aU} {N:Nat} {id dC:Int} (h:bZ c N) (hb:c.2.1.length≤1048576) (hN:c.2.1.length+1<N):bZ (Ac c id dC) N:=by
 have hl:=Tr (x:=ain id dC) (M6 c.2.1 id)
 have h8:=h.n8
 refine B3 h (by omega) (by omega) fun x hx=> ?_
 rcases Aa hx with hx |rfl
 ·exact⟨h.YX x hx,(h.jm x hx).2⟩
 ·exact⟨by show(0:Nat)≤_;omega,by show(0:Nat)<_;omega⟩
theorem PD {N:Nat} {c z:aU} {id dC:Int} {k:Int→Option af} (h:bZ c N):pX id dC c z c N k (0:Int)=k ((qn c.2.1 id:Nat):Int):=by
 rw[SR h.jl h.jN,z' c.2.1 0 c.2.1.length (by omega),Nat.zero_add]
 rfl
theorem acx {N:Nat} {c:aU} {id dC:Int} {kf:aU→Bool→Option af} (h:bZ c N) (hb:c.2.1.length≤1048576) (hN1:c.2.1.length+1<N) (hN:200<N) (hl:c.2.2.2.2.2.1.length+1<N):
  S30 N c id dC kf=kf (rB c (Ac c id dC) 2 id) (qj c (Ac c id dC) 2 id):=by
 have hm:=aW
 have hk:=M6 c.2.1 id
 unfold S30
 rw[vo h,PD h]
 show(bif (decide ((0:Int)≤(0:Int))&&decide ((0:Int)≤((qn c.2.1 id:Nat):Int))&&decide (((qn c.2.1 id:Nat):Int)≤(List.length c.2.1:Int))) then _ else _)=_
 have d1:(decide ((0:Int)≤(0:Int))&&decide ((0:Int)≤((qn c.2.1 id:Nat):Int))&&decide (((qn c.2.1 id:Nat):Int)≤(List.length c.2.1:Int)))=true:=by simp;omega
 have d2:(decide ((0:Int)≤((qn c.2.1 id:Nat):Int))&&decide (((qn c.2.1 id:Nat):Int)≤(List.length c.2.1:Int))&&decide ((List.length c.2.1:Int)≤(List.length c.2.1:Int)))=true:=by simp;omega
 have l1:(c.2.1.take (qn c.2.1 id)).length≤c.2.1.length:=by rw[List.length_take];omega
 have l2:(c.2.1.drop (qn c.2.1 id)).length≤c.2.1.length:=by rw[List.length_drop];omega
 rw[d1,cond_true,Int.toNat_natCast,(ug c.2.1 (qn c.2.1 id)).1,La (by omega) (fun x hx=>h.YX x (List.mem_of_mem_take hx)) (by omega),decide_eq_true (by simp only[List.length_cons,List.length_nil];omega),cond_true]
 show(bif (decide ((0:Int)≤((qn c.2.1 id:Nat):Int))&&decide (((qn c.2.1 id:Nat):Int)≤(List.length c.2.1:Int))&&decide ((List.length c.2.1:Int)≤(List.length c.2.1:Int))) then _ else _)=_
 rw[d2,cond_true,Int.toNat_natCast]
 show S49 N (List.drop (qn c.2.1 id) (List.take (List.length c.2.1) c.2.1)) _=_
 rw[(ug c.2.1 (qn c.2.1 id)).2,La (by omega) (fun x hx=>h.YX x (List.mem_of_mem_drop hx)) (by omega),decide_eq_true (by simp only[List.length_append,List.length_cons,List.length_nil];omega),cond_true]
 exact vp (out:=Ac c id dC) h (fun _=>PC h hb hN1) hN hl
end Go.Pv.R
namespace Go.Pv.R
set_option linter.unusedVariables false
set_option linter.unusedSimpArgs false
theorem aio (l:List UInt8):ByteArray.size ⟨l.toArray⟩=l.length:=by simp[ByteArray.size]
theorem rD:∀ (m u:Nat),u<10^(m+1)→(Lib.decDigits u).length≤m+1:=by
 intro m
 induction m with
 |zero=>
  intro u hu
  rw[Lib.decDigits,dif_pos (by omega)]
  simp
 |succ m ih=>
  intro u hu
  rw[Lib.decDigits]
  by_cases h1:u<10
  ·rw[dif_pos h1];simp
  ·rw[dif_neg h1]
   have:=ih (u/10) (by rw[Nat.pow_succ] at hu;omega)
   simp only[List.length_append,List.length_cons,List.length_nil]
   omega
def kE (n:Int):Prop:= -9223372036854775808≤n∧n≤9223372036854775807
theorem bV {n:Int} (h:kE n):(dd n).size≤20:=by
 unfold dd
 rw[aio]
 unfold Lib.itoa
 obtain⟨h1,h2⟩:=h
 split
 ·have:=rD 18 n.natAbs (by omega)
  simp only[List.length_cons]
  omega
 ·have:=rD 18 n.toNat (by omega)
  omega
theorem jO {N:Nat} {n:Int} {kf:ByteArray→Option af} (h:kE n):zz N n kf=kf (dd n):=by
 unfold zz S25
 rw[decide_eq_true h.1,decide_eq_true h.2]
 rfl
end Go.Pv.R
namespace Go.Pv.R
set_option linter.unusedVariables false
set_option linter.unusedSimpArgs false
theorem Xs {a b:ByteArray} (h:a.data.toList=b.data.toList):a=b:=ByteArray.ext (Array.ext' h)
theorem uh (a b:ByteArray):(a++b).data.toList=a.data.toList++b.data.toList:=by rw[ByteArray.data_append,Array.toList_append]
theorem b9 (a b:ByteArray):(a++b).size=a.size+b.size:=ByteArray.size_append
def rE (sep:ByteArray) (r:List ByteArray):ByteArray:=⟨(Lib.joinTail sep.data.toList (r.map (·.data.toList))).toArray⟩
theorem sU (sep x:ByteArray) (r:List ByteArray):jU (x::r) sep=x++rE sep r:=by
 apply Xs
 simp only[uh,rE,jU,List.map_cons,Lib.join_cons]
theorem Ad (sep:ByteArray):∀ (r:List ByteArray) (m:Nat),(∀ y∈r,y.size≤m)→(rE sep r).size≤(sep.size+m)*r.length
 |[],m,_=>by show(0:Nat)≤_;omega
 |x::r,m,h=>by
  have ih:=Ad sep r m (fun y hy=>h y (by simp[hy]))
  have hx:=h x (by simp)
  have e:rE sep (x::r)=(sep++x)++rE sep r:=by
   apply Xs
   simp only[uh,rE,Lib.joinTail,List.map_cons,List.flatten_cons,List.append_assoc]
  rw[e,b9,b9,List.length_cons,Nat.mul_succ]
  omega
theorem Ae {sep:ByteArray} {r:List ByteArray} {m:Nat} (h:∀ y∈r,y.size≤m):(jU r sep).size≤(sep.size+m)*r.length:=by
 cases r with
 |nil=>show(0:Nat)≤_;omega
 |cons x r=>
  rw[sU,b9,List.length_cons,Nat.mul_succ]
  have:=Ad sep r m (fun y hy=>h y (by simp[hy]))
  have:=h x (by simp)
  omega
noncomputable def gA (l:List ByteArray):ByteArray:=match l with
 |[]=>cY
 |x::r=>jU (x::r) ju
theorem D' {N:Nat} {l:List ByteArray} {kf:ByteArray→Option af} (hm:∀ y∈l,y.size≤200) (hl:l.length≤1048576):Wh N l kf=kf (gA l):=by
 unfold Wh
 cases l with
 |nil=>rfl
 |cons x r=>
  have e2:((List.length (x::r):Int)==(0:Int))=false:=beq_eq_false_iff_ne.2 (by simp only[List.length_cons];omega)
  rw[e2,cond_false]
  unfold S26 gA
  have h1:=Ae (sep:=ju) hm
  have e1:ju.size=1:=rfl
  have h2:(ju.size+200)*(x::r).length≤(ju.size+200)*1048576:=Nat.mul_le_mul_left _ hl
  have e3:Nat.ble (List.length (x::r)) 140737488355328=true:=by rw[Nat.ble_eq];omega
  have e4:Nat.ble (ByteArray.size (jU (x::r) ju)) 140737488355328=true:=by rw[Nat.ble_eq];omega
  rw[e3,e4]
  rfl
theorem dX {α β:Type} {c:Nat→α→Bool} {f:Nat→α→β} {y:β}:∀ {l:List α} {i:Nat},y∈cb c f l i→∃ j x,x∈l∧y=f j x
 |[],i,h=>by simp[cb] at h
 |x::r,i,h=>by
  simp only[cb] at h
  cases hc:c i x with
  |true=>
   rw[hc,cond_true] at h
   rcases List.mem_cons.1 h with rfl |h
   ·exact⟨i,x,by simp,rfl⟩
   ·obtain⟨j,z,hz,e⟩:=dX h
    exact⟨j,z,by simp[hz],e⟩
  |false=>
   rw[hc,cond_false] at h
   obtain⟨j,z,hz,e⟩:=dX h
   exact⟨j,z,by simp[hz],e⟩
def wj (l:List Int):List ByteArray:=cb (fun _ _=>true) (fun _ x=>dd x) l 0
theorem Af {l:List Int} (h:∀ x∈l,kE x) (hl:l.length≤1048576):(∀ y∈wj l,y.size≤200)∧(wj l).length≤1048576:=by
 have:=fO (c:=fun _ _=>true) (f:=fun _ (x:Int)=>dd x) l 0
 refine⟨fun y hy=> ?_,by unfold wj;omega⟩
 obtain⟨j,x,hx,rfl⟩:=dX hy
 have:=bV (h x hx)
 omega
theorem Tv {N:Nat} {l:List Int} {kf:ByteArray→Option af} (h:∀ x∈l,kE x) (hl:l.length≤1048576) (hN:l.length+20<N):I12 N l kf=kf (gA (wj l)):=by
 have h0:=aW
 have hlen:=fO (c:=fun _ _=>true) (f:=fun _ (x:Int)=>dd x) l 0
 unfold I12
 rw[S4 (by omega) (by omega),dW (l:=l) (c:=fun _ _=>true) (f:=fun _ x=>dd x) (fun i x s next hi e hs=> ?_) l 0 [] rfl (by simp)]
 ·rw[List.nil_append]
  exact D' (Af h hl).1 (Af h hl).2
 ·rw[jO (h x (by rw[←e];exact List.getElem_mem hi)),aik (by simp only[List.length_cons,List.length_nil];omega) (by decide)]
  rfl
end Go.Pv.R
namespace Go.Pv.R
set_option linter.unusedVariables false
set_option linter.unusedSimpArgs false
theorem sm {a b:Nat} (h:a+b≤4000):decide (a+b≤9223372036854775807)=true:=decide_eq_true (by omega)
noncomputable def C3 (x:az):ByteArray:=((((((dd x.1++dU)++dd x.2.2.1)++jW)++dd (List.length x.2.2.2.2.2:Int))++oY)++dd x.2.2.2.1)
structure Ea (x:az):Prop where
 h1:kE x.1
 h2:kE x.2.2.1
 h3:kE (List.length x.2.2.2.2.2:Int)
 h4:kE x.2.2.2.1
theorem Ag {x:az} (h:Ea x):(C3 x).size≤200:=by
 have a1:=bV h.h1;have a2:=bV h.h2;have a3:=bV h.h3;have a4:=bV h.h4
 have c1:dU.size=1:=rfl;have c2:jW.size=1:=rfl;have c3:oY.size=1:=rfl
 unfold C3
 simp only[b9]
 omega
noncomputable def qo (l:List az):List ByteArray:=cb (fun _ _=>true) (fun _ x=>C3 x) l 0
theorem PE {l:List az} (h:∀ x∈l,Ea x) (hl:l.length≤1048576):(∀ y∈qo l,y.size≤200)∧(qo l).length≤l.length:=by
 refine⟨fun y hy=> ?_,fO l 0⟩
 obtain⟨j,x,hx,rfl⟩:=dX hy
 exact Ag (h x hx)
theorem aip {N:Nat} {l:List az} {kf:ByteArray→Option af} (h:∀ x∈l,Ea x) (hl:l.length≤1048576) (hN:l.length+20<N):I6 N l kf=kf (gA (qo l)):=by
 have h0:=aW
 unfold I6
 rw[Xk (by omega) (by omega),dW (l:=l) (c:=fun _ _=>true) (f:=fun _ x=>C3 x) (fun i x s next hi e hs=> ?_) l 0 [] rfl (by simp)]
 ·rw[List.nil_append]
  have hb:=PE h hl
  have Q':=hb.2
  show Wh N (qo l) kf=_
  exact D' hb.1 (by omega)
 ·have q:=h x (by rw[←e];exact List.getElem_mem hi)
  have a1:=bV q.h1;have a2:=bV q.h2;have a3:=bV q.h3;have a4:=bV q.h4
  have c1:dU.size=1:=rfl;have c2:jW.size=1:=rfl;have c3:oY.size=1:=rfl
  rw[jO q.h1,sm (by first |omega |(simp only[b9];omega)),cond_true,jO q.h2,sm (by first |omega |(simp only[b9];omega)),cond_true,sm (by first |omega |(simp only[b9];omega)),cond_true,jO q.h3,sm (by first |omega |(simp only[b9];omega)),cond_true,sm (by first |omega |(simp only[b9];omega)),cond_true,jO q.h4,sm (by first |omega |(simp only[b9];omega)),cond_true,decide_eq_true (by simp only[List.length_cons,List.length_nil];omega)]
  rfl
abbrev cJ:=a7
noncomputable def Eb (n:Int):ByteArray:=ByteArray.extract dt (Int.toNat n) (Int.toNat (n+1))
noncomputable def fR (x:cJ):ByteArray:=bif ic x.2.1 1 2&&ic x.2.2 0 4 then(((dd x.1++dU)++dd x.2.1)++Eb x.2.2) else RE
structure xV (x:cJ):Prop where
 h1:kE x.1
 h2:kE x.2.1
theorem wk (n:Int):(Eb n).size≤5:=by
 unfold Eb
 rw[ByteArray.size_extract]
 have:dt.size=5:=rfl
 omega
theorem HE {x:cJ} (h:xV x):(fR x).size≤100:=by
 have a1:=bV h.h1;have a2:=bV h.h2;have a3:=wk x.2.2
 have c1:dU.size=1:=rfl;have c2:RE.size=0:=rfl
 unfold fR
 cases ic x.2.1 1 2&&ic x.2.2 0 4 with
 |false=>show RE.size≤_;omega
 |true=>
  show ByteArray.size (((dd x.1++dU)++dd x.2.1)++Eb x.2.2)≤_
  simp only[b9]
  omega
theorem acy {N:Nat} {x:cJ} {kf:ByteArray→Option af} (h:xV x) (hN:20<N):I23 N x kf=kf (fR x):=by
 have a1:=bV h.h1;have a2:=bV h.h2;have a3:=wk x.2.2
 have c1:dU.size=1:=rfl
 unfold I23 fR
 rw[Ta]
 cases Dn:ic x.2.1 1 2 with
 |false=>rfl
 |true=>
  simp only[Bool.not_true,cond_false,Bool.true_and]
  rw[Ta]
  cases GQ:ic x.2.2 0 4 with
  |false=>rfl
  |true=>
   obtain⟨r1,r2⟩:=jg.1 GQ
   have hw:IntKind.wrap .i64 (x.2.2+(1:Int))=x.2.2+1:=wrap64 (by omega) (by omega)
   have c3:dt.size=5:=rfl
   have d1:(decide ((0:Int)≤x.2.2)&&decide (x.2.2≤x.2.2+1)&&decide (x.2.2+1≤(ByteArray.size dt:Int)))=true:=by
    simp only[Bool.and_eq_true,decide_eq_true_eq]
    omega
   simp only[Bool.not_true,cond_false,cond_true,hw,d1]
   have a3':(ByteArray.extract dt (Int.toNat x.2.2) (Int.toNat (x.2.2+1))).size≤5:=a3
   rw[jO h.h1,sm (by first |omega |(simp only[b9];omega)),cond_true,jO h.h2,sm (by first |omega |(simp only[b9];omega)),cond_true,sm (by first |omega |(simp only[b9];omega)),cond_true]
   rfl
noncomputable def qp (s:ByteArray):ByteArray:=bif ByteArray.toList s==ByteArray.toList RE then jX else s
noncomputable def kr (l:List cJ):List ByteArray:=cb (fun _ _=>true) (fun _ x=>qp (fR x)) l 0
theorem Ld {l:List cJ} (h:∀ x∈l,xV x) (hl:l.length≤1048576):(∀ y∈kr l,y.size≤200)∧(kr l).length≤l.length:=by
 refine⟨fun y hy=> ?_,fO l 0⟩
 obtain⟨j,x,hx,rfl⟩:=dX hy
 have:=HE (h x hx)
 have c:jX.size=1:=rfl
 unfold qp
 cases ByteArray.toList (fR x)==ByteArray.toList RE with
 |true=>show jX.size≤_;omega
 |false=>show(fR x).size≤_;omega
theorem acz {N:Nat} {l:List cJ} {kf:ByteArray→Option af} (h:∀ x∈l,xV x) (hl:l.length≤1048576) (hN:l.length+20<N):I13 N l kf=kf (gA (kr l)):=by
 have h0:=aW
 unfold I13
 rw[S9 (by omega) (by omega),dW (l:=l) (c:=fun _ _=>true) (f:=fun _ x=>qp (fR x)) (fun i x s next hi e hs=> ?_) l 0 [] rfl (by simp)]
 ·rw[List.nil_append]
  have hb:=Ld h hl
  have Q':=hb.2
  show Wh N (kr l) kf=_
  exact D' hb.1 (by omega)
 ·rw[acy (h x (by rw[←e];exact List.getElem_mem hi)) (by omega)]
  unfold qp
  cases ByteArray.toList (fR x)==ByteArray.toList RE with
  |true=>rw[cond_true,decide_eq_true (by simp only[List.length_cons,List.length_nil];omega)];rfl
  |false=>rw[cond_false,decide_eq_true (by simp only[List.length_cons,List.length_nil];omega)];rfl
noncomputable def Ah (s:List Int) (i:Nat):ByteArray:=bif decide (i<s.length) then dd (s.getD i 0) else jX
noncomputable def C4 (s:List Int) (i:Nat) (x:cN):ByteArray:=((((dd x.1++cY)++dd x.2)++jY)++Ah s i)
noncomputable def qq (s:List Int) (l:List cN):List ByteArray:=cb (fun _ _=>true) (C4 s) l 0
theorem Ai {s:List Int} (h:∀ x∈s,kE x) (i:Nat):(Ah s i).size≤20:=by
 unfold Ah
 by_cases hi:i<s.length
 ·rw[decide_eq_true hi,cond_true,au _ _ hi]
  exact bV (h _ (List.getElem_mem hi))
 ·rw[decide_eq_false hi]
  show jX.size≤20
  have:jX.size=1:=rfl
  omega
theorem C5 {s:List Int} {l:List cN} (hs:∀ x∈s,kE x) (h:∀ x∈l,kE x.1∧kE x.2):(∀ y∈qq s l,y.size≤200)∧(qq s l).length≤l.length:=by
 refine⟨fun y hy=> ?_,fO l 0⟩
 obtain⟨j,x,hx,rfl⟩:=dX hy
 obtain⟨q1,q2⟩:=h x hx
 have a1:=bV q1;have a2:=bV q2;have a3:=Ai hs j
 have c1:cY.size=1:=rfl;have c2:jY.size=1:=rfl
 unfold C4
 simp only[b9]
 omega
theorem aiq {N:Nat} {l:List cN} {s:List Int} {kf:ByteArray→Option af} (hs:∀ x∈s,kE x) (h:∀ x∈l,kE x.1∧kE x.2) (hl:l.length≤1048576) (hN:l.length+20<N):I8 N l s kf=kf (gA (qq s l)):=by
 have h0:=aW
 unfold I8
 rw[Xl (by omega) (by omega),dW (l:=l) (c:=fun _ _=>true) (f:=C4 s) (fun i x s' next hi e mc=> ?_) l 0 [] rfl (by simp)]
 ·rw[List.nil_append]
  have hb:=C5 hs h
  have Q':=hb.2
  show Wh N (qq s l) kf=_
  exact D' hb.1 (by omega)
 ·obtain⟨q1,q2⟩:=h x (by rw[←e];exact List.getElem_mem hi)
  have a1:=bV q1;have a2:=bV q2;have a3:=Ai hs i
  have c1:cY.size=1:=rfl;have c2:jY.size=1:=rfl;have c3:jX.size=1:=rfl
  unfold C4 Ah
  unfold Ah at a3
  by_cases lP:i<s.length
  ·have q3:=hs _ (List.getElem_mem lP)
   rw[decide_eq_true lP,cond_true,au _ _ lP] at a3 ⊢
   rw[decide_eq_true (show(i:Int)<(List.length s:Int) by omega),cond_true,aM lP,cond_true,Int.toNat_natCast,au _ _ lP,jO q3]
   rw[jO q1,sm (by first |omega |(simp only[b9];omega)),cond_true,jO q2,sm (by first |omega |(simp only[b9];omega)),cond_true,sm (by first |omega |(simp only[b9];omega)),cond_true,sm (by first |omega |(simp only[b9];omega)),cond_true,decide_eq_true (by simp only[List.length_cons,List.length_nil];omega)]
   rfl
  ·rw[decide_eq_false lP,cond_false,decide_eq_false (show ¬(i:Int)<(List.length s:Int) by omega),cond_false]
   rw[jO q1,sm (by first |omega |(simp only[b9];omega)),cond_true,jO q2,sm (by first |omega |(simp only[b9];omega)),cond_true,sm (by first |omega |(simp only[b9];omega)),cond_true,sm (by first |omega |(simp only[b9];omega)),cond_true,decide_eq_true (by simp only[List.length_cons,List.length_nil];omega)]
   rfl
end Go.Pv.R
namespace Go.Pv.R
set_option linter.unusedVariables false
set_option linter.unusedSimpArgs false
end Go.Pv.R
namespace Go.Pv.R
set_option linter.unusedVariables false
set_option linter.unusedSimpArgs false
end Go.Pv.R
namespace Go.Pv.R
set_option linter.unusedVariables false
set_option linter.unusedSimpArgs false
end Go.Pv.R
namespace Go.Pv.R
set_option linter.unusedVariables false
set_option linter.unusedSimpArgs false
end Go.Pv.R
namespace Go.Pv.R
set_option linter.unusedVariables false
set_option linter.unusedSimpArgs false
end Go.Pv.R
namespace Go.Pv.R
set_option linter.unusedVariables false
set_option linter.unusedSimpArgs false
def oH (a b:az):Bool:=bif a.2.2.1 != b.2.2.1 then decide (a.2.2.1>b.2.2.1) else(bif decide (a.2.2.2.1>b.2.2.2.1) then true else(bif a.2.2.2.1==b.2.2.2.1 then decide (a.1<b.1) else false))
theorem Tw {N:Nat} {a b:az} {kf:Bool→Option af}:S94 N a b kf=kf (oH a b):=by
 unfold S94 oH
 cases (a.2.2.1 != b.2.2.1) with
 |true=>rfl
 |false=>
  simp only[cond_false]
  cases decide (a.2.2.2.1>b.2.2.2.1) with
  |true=>rfl
  |false=>
   simp only[cond_false]
   cases (a.2.2.2.1==b.2.2.2.1)<;>rfl
def vt (x:az) (s:List az):Nat→Nat
 |0=>0
 |k+1=>bif oH x (s.getD k ab) then vt x s k else k+1
theorem Ee (x:az) (s:List az):∀ k,vt x s k≤k
 |0=>Nat.le_refl _
 |k+1=>by
  unfold vt
  cases oH x (s.getD k ab) with
  |true=>exact Nat.le_succ_of_le (Ee x s k)
  |false=>exact Nat.le_refl _
def Tx (s:List az) (x:az):List az:=s.take (vt x s s.length)++[x]++s.drop (vt x s s.length)
theorem HF (s:List az) (x:az):(Tx s x).length=s.length+1:=by
 have:=Ee x s s.length
 simp[Tx];omega
def M7 (l:List az):List az:=l.foldl Tx []
theorem HG:∀ (l s:List az),(l.foldl Tx s).length=s.length+l.length
 |[],s=>by simp
 |x::l,s=>by simp only[List.foldl_cons,HG l,HF,List.length_cons];omega
theorem C6 (l:List az):(M7 l).length=l.length:=by simp[M7,HG]
def Aj (l:List az):List Int:=bif aD l then(M7 l).map (fun x:az=>x.1) else []
theorem C7 {N:Nat} {l s:List az} {i:Nat} (hi:i<l.length) (hl:l.length≤1048700) (hs:s.length≤1048700) {kk:Int→Option af}:∀ (k n:Nat),k≤s.length→k<n→sG N l s (i:Int) n kk (k:Int)=kk ((vt l[i] s k:Nat):Int)
 |0,n+1,_,_=>by
  simp only[sG]
  rfl
 |k+1,n+1,hk,hn=>by
  have hm:=aW
  have ew:IntKind.wrap .i64 (((k+1:Nat):Int) - 1)=((k:Nat):Int):=by
   have:=qQ (i:=k+1) (m:=s.length+1) (by omega) (by omega) (by omega)
   simpa using this
  simp only[sG]
  rw[decide_eq_true (show((k+1:Nat):Int)>0 by omega),cond_true,aM hi,cond_true,ew,aM (show k<s.length by omega),cond_true,Tw,Int.toNat_natCast,Int.toNat_natCast,au l i hi]
  unfold vt
  cases oH l[i] (s.getD k ab) with
  |true=>simp only[cond_true];exact C7 hi hl hs k n (by omega) (by omega)
  |false=>rfl
theorem Ak {α σ:Type} {body:Nat→α→σ→(σ→Option af)→Option af} {cW:σ→Option af} {g:σ→α→σ} {Inv:Nat→σ→Prop} {l:List α}
  (hb:∀ (i:Nat) (s:σ) (next:σ→Option af) (h:i<l.length),Inv i s→body i l[i] s next=next (g s l[i])∧Inv (i+1) (g s l[i])):∀ (r:List α) (i:Nat) (s:σ),l.drop i=r→Inv i s→eh body cW r i s=cW (r.foldl g s)
 |[],i,s,_,_=>rfl
 |x::r,i,s,hd,hs=>by
  have cI:i<l.length:=by have:=congrArg List.length hd;simp at this;omega
  rw[List.drop_eq_getElem_cons cI] at hd
  injection hd with h1 h2
  subst h1
  obtain⟨e1,e2⟩:=hb i s (fun s'=>eh body cW r (i+1) s') cI hs
  simp only[eh,List.foldl_cons]
  rw[e1]
  exact Ak hb r (i+1) _ h2 e2
theorem Tz {l:List az} {kf:List Int→Option af} (hl:l.length≤1048700):eh (fun(i:Nat) (x:ah) (s:(List Int)) (next:(List Int)→Option af)=>
    bif (decide ((List.length s+List.length [x.1])*1≤4398046511104)) then
     next (s++[x.1])
    else none) (fun(s:(List Int))=>kf s) l 0 []=kf (l.map fun x:az=>x.1):=by
 rw[Ak (l:=l) (g:=fun s (x:az)=>s++[x.1]) (Inv:=fun i s=>s.length=i) (fun i s next h hs=>⟨by rw[decide_eq_true (by simp only[List.length_cons,List.length_nil];omega),cond_true],by simp[hs]⟩) l 0 [] rfl rfl]
 congr 1
 have:∀ (r:List az) (s:List Int),r.foldl (fun s (x:az)=>s++[x.1]) s=s++r.map fun x:az=>x.1:=by
  intro r
  induction r with
  |nil=>intro s;simp
  |cons x r ih=>intro s;simp[ih]
 simpa using this l []
theorem acA {N:Nat} {l:List az} {kf:List Int→Option af} (hl:l.length≤maxLen) (hm:∀ x∈l,x.met.length≤maxLen∧x.met.length<N) (hN:l.length+1<N):S70 N l kf=kf (Aj l):=by
 have hx:=aW
 unfold S70 Aj
 rw[SS hl (by omega)]
 have ha:∀ kf,JT N l kf=kf (aD l):=fun kf=>mV hl hm (by omega)
 cases dG:aD l with
 |false=>
  have key:∀ (l2:List az) (body:Nat→az→List az→(List az→Option af)→Option af) (cW:List az→Option af),(∀ i x s next,body i x s next=cW s)→eh body cW l2 0 []=cW []:=by
   intro l2 body cW h
   cases l2 with
   |nil=>rfl
   |cons x r=>simp only[eh];exact h _ _ _ _
  rw[key _ _ _ (fun i x s next=>by rw[ha,dG];rfl)]
  rw[CX (by simp) (by simp;omega)]
  rfl
 |true=>
  have h10:l.length≤10:=by
   unfold aD at dG
   simp only[Bool.and_eq_true,decide_eq_true_eq] at dG
   exact dG.1
  rw[Ak (l:=l) (g:=Tx) (Inv:=fun i s=>s.length=i∧i≤l.length) (fun i s next h hs=>⟨by
   obtain⟨h1,h2⟩:=hs
   have hp:=Ee l[i] s s.length
   rw[ha,dG]
   simp only[cond_true]
   rw[C7 h (by omega) (by omega) s.length N (Nat.le_refl _) (by omega)]
   have d1:(decide ((0:Int)≤(0:Int))&&decide ((0:Int)≤((vt l[i] s s.length:Nat):Int))&&decide (((vt l[i] s s.length:Nat):Int)≤(List.length s:Int)))=true:=by simp;omega
   have d2:(decide ((0:Int)≤((vt l[i] s s.length:Nat):Int))&&decide (((vt l[i] s s.length:Nat):Int)≤(List.length s:Int))&&decide ((List.length s:Int)≤(List.length s:Int)))=true:=by simp;omega
   rw[d1,cond_true,d2,cond_true,Int.toNat_natCast,Int.toNat_natCast,List.drop_zero,List.take_length,List.nil_append]
   have l1:(s.take (vt l[i] s s.length)).length≤s.length:=by rw[List.length_take];omega
   have l2:(s.drop (vt l[i] s s.length)).length≤s.length:=by rw[List.length_drop];omega
   rw[decide_eq_true (by simp only[List.length_nil];omega),cond_true,decide_eq_true (by simp only[List.length_cons,List.length_nil];omega),cond_true,decide_eq_true (by simp only[List.length_append,List.length_cons,List.length_nil];omega),cond_true]
   rfl,by rw[HF];omega,h⟩) l 0 [] rfl ⟨rfl,by omega⟩]
  have hlen:=C6 l
  show mF (M7 l) N kf [] 0=_
  rw[CX (by omega) (by omega)]
  exact Tz (by omega)
end Go.Pv.R
namespace Go.Pv.R
set_option linter.unusedVariables false
set_option linter.unusedSimpArgs false
def rF (t:List az) (id:Int):az:=t.getD (aF t id).toNat ab
def TA (t:List az) (a b:Int):cN:=bif aD t&&(decide (aF t a≥0)&&(decide (aF t b≥0)&&(aF t a != aF t b))) then
  (bif decide ((rF t b).2.2.2.2.1<(rF t a).2.2.2.2.1) then(b,a) else bif (rF t b).2.2.2.2.1==(rF t a).2.2.2.2.1 then(bif oH (rF t b) (rF t a) then(b,a) else(a,b)) else(a,b)) else(0,0)
theorem acB {N:Nat} {t:List az} {a b:Int} {kf:cN→Option af} (hl:t.length≤maxLen) (hm:∀ x∈t,x.met.length≤maxLen∧x.met.length<N) (hN:t.length<N):S93 N t a b kf=kf (TA t a b):=by
 unfold S93 TA
 rw[mU hl hN,mU hl hN,mV hl hm hN]
 cases aD t with
 |false=>rfl
 |true=>
  by_cases ha:aF t a≥0
  rotate_left
  ·rw[decide_eq_true (show aF t a<0 by omega),decide_eq_false ha];rfl
  by_cases hb:aF t b≥0
  rotate_left
  ·rw[decide_eq_false (show ¬aF t a<0 by omega),decide_eq_true ha,decide_eq_true (show aF t b<0 by omega),decide_eq_false hb];rfl
  rw[decide_eq_true ha,decide_eq_true hb,decide_eq_false (show ¬aF t a<0 by omega),decide_eq_false (show ¬aF t b<0 by omega),(jD ha).1,(jD hb).1]
  simp only[cond_true,cond_false,Bool.not_true,Bool.true_and,Tw,bne]
  unfold rF
  cases (aF t a==aF t b)
  ·simp only[cond_false,Bool.not_false,cond_true]
   cases decide ((t.getD (aF t b).toNat ab).2.2.2.2.1<(t.getD (aF t a).toNat ab).2.2.2.2.1)
   ·simp only[cond_false]
    cases ((t.getD (aF t b).toNat ab).2.2.2.2.1==(t.getD (aF t a).toNat ab).2.2.2.2.1)
    ·rfl
    ·simp only[cond_true]
     cases oH (t.getD (aF t b).toNat ab) (t.getD (aF t a).toNat ab)<;>rfl
   ·rfl
  ·rfl
theorem gB {t:List az} {a:Int} (ha:aF t a≥0):rF t a∈t∧(rF t a).1=a:=by
 obtain⟨k,hk,e,h1,_⟩:=cp (p:=fun x:az=>x.1==a) (l:=t) (by unfold aF at ha;omega)
 have e:aF t a=(k:Int):=e
 unfold rF
 rw[e,Int.toNat_natCast,au _ _ hk]
 exact⟨List.getElem_mem hk,by simpa using h1⟩
end Go.Pv.R
namespace Go.Pv.R
set_option linter.unusedVariables false
set_option linter.unusedSimpArgs false
def ui (L:List Int) (i:Nat):List Int:=List.drop 1 (List.take i L)++List.drop (i+1) L
theorem vu {L:List Int} {i:Nat} (h1:1≤i) (h:i<L.length):(ui L i).length=L.length - 2:=by simp[ui];omega
def uj (t:List az) (f:List Int→Option (List cN)) (L:List Int):Nat→Nat→Option (List cN)
 |0,_=>none
 |k+1,i=>bif de t (L.getD 0 0) (L.getD i 0) then
   (match f (ui L i) with
    |some r=>some (TA t (L.getD 0 0) (L.getD i 0)::r)
    |none=>uj t f L k (i+1))
  else uj t f L k (i+1)
def uk (t:List az):Nat→List Int→Option (List cN)
 |0,_=>none
 |n+1,L=>bif decide (L.length=0) then some [] else uj t (uk t n) L (L.length - 1) 1
def M8 {α β:Type} (o:Option (List α)) (k:List α→Bool→β):β:=match o with |some r=>k r true |none=>k [] false
theorem vw {t:List az} {f:List Int→Option (List cN)} {L:List Int} (hf:∀ (L':List Int) r,f L'=some r→2*r.length=L'.length):∀ (k i:Nat) r,1≤i→i+k=L.length→uj t f L k i=some r→2*r.length=L.length
 |0,i,r,h0,h,e=>by simp[uj] at e
 |k+1,i,r,h0,h,e=>by
  unfold uj at e
  cases hm:de t (L.getD 0 0) (L.getD i 0) with
  |false=>rw[hm,cond_false] at e;exact vw hf k (i+1) r (by omega) (by omega) e
  |true=>
   rw[hm,cond_true] at e
   cases hr:f (ui L i) with
   |none=>rw[hr] at e;exact vw hf k (i+1) r (by omega) (by omega) e
   |some r'=>
    rw[hr] at e
    injection e with e
    subst e
    have h1:=hf _ _ hr
    rw[vu h0 (by omega)] at h1
    simp only[List.length_cons]
    omega
theorem vz {t:List az}:∀ (n:Nat) (L:List Int) r,uk t n L=some r→2*r.length=L.length
 |0,L,r,e=>by simp[uk] at e
 |n+1,L,r,e=>by
  unfold uk at e
  by_cases h:L.length=0
  ·rw[decide_eq_true h,cond_true] at e
   injection e with e
   subst e
   simp[h]
  ·rw[decide_eq_false h,cond_false] at e
   exact vw (fun L' r' e'=>vz n L' r' e') (L.length - 1) 1 r (by omega) (by omega) e
theorem TB {L:List Int} {i:Nat} (h1:1≤i) (h:i<L.length):(decide ((0:Int)≤(1:Int))&&decide ((1:Int)≤(i:Int))&&decide ((i:Int)≤(List.length L:Int)))=true∧(decide ((0:Int)≤((i+1:Nat):Int))&&decide (((i+1:Nat):Int)≤(List.length L:Int))&&decide ((List.length L:Int)≤(List.length L:Int)))=true:=by
 constructor
 ·rw[decide_eq_true (by omega),decide_eq_true (by omega),decide_eq_true (by omega)];rfl
 ·rw[decide_eq_true (by omega),decide_eq_true (by omega),decide_eq_true (by omega)];rfl
theorem C8 {N B:Nat} {self:List az→List Int→(List cN→Bool→Option af)→Option af} {t:List az} {f:List Int→Option (List cN)} {L:List Int} {k0:Option af} {kf:List cN→Bool→Option af}
  (hl:t.length≤maxLen) (hm:∀ x∈t,x.met.length≤maxLen∧x.met.length<N) (hN:t.length<N) (Wi:20<N) (hL:L.length≤1000)
  (hs:∀ (i:Nat) k,1≤i→i<L.length→self t (ui L i) k=M8 (f (ui L i)) k) (Cw:∀ (L':List Int) r,f L'=some r→2*r.length=L'.length):∀ (k i n:Nat),1≤i→i+k=L.length→k<n→
  sI N self t L n k0 kf (i:Int)=match uj t f L k i with |some r=>kf r true |none=>k0
 |0,i,n+1,h1,h,hn=>by
  simp only[sI]
  rw[decide_eq_false (by omega)]
  rfl
 |k+1,i,n+1,h1,h,hn=>by
  have hx:=aW
  have ih:=C8 (k0:=k0) (kf:=kf) (B:=B) hl hm hN Wi hL hs Cw k (i+1) n (by omega) (by omega) (by omega)
  obtain⟨d1,d2⟩:=TB (L:=L) h1 (by omega)
  have ew:IntKind.wrap .i64 ((i:Int)+1)=((i+1:Nat):Int):=kC (m:=L.length) (i:=i) (by omega) (by omega)
  simp only[sI]
  rw[decide_eq_true (by omega),cond_true,show bw (0:Int) (List.length L)=true from aM (i:=0) (show 0<L.length by omega),cond_true,aM (show i<L.length by omega),cond_true,Th hl hm hN]
  unfold uj
  show(bif !de t (L.getD 0 0) (L.getD i 0) then _ else _)=_
  cases de t (L.getD 0 0) (L.getD i 0) with
  |false=>
   simp only[Bool.not_false,cond_true,cond_false]
   rw[ew]
   exact ih
  |true=>
   simp only[Bool.not_true,cond_true,cond_false]
   rw[d1,cond_true,ew,d2,cond_true]
   have e3:(([]:List Int)++List.drop (Int.toNat (1:Int)) (List.take (Int.toNat (i:Int)) L))++List.drop (Int.toNat ((i+1:Nat):Int)) (List.take (Int.toNat (List.length L:Int)) L)=ui L i:=by
    rw[Int.toNat_natCast,Int.toNat_natCast,Int.toNat_natCast,List.take_length];rfl
   rw[e3]
   rw[decide_eq_true (by simp;omega),cond_true,decide_eq_true (by simp;omega),cond_true,hs i _ h1 (by omega)]
   unfold M8
   cases hr:f (ui L i) with
   |none=>exact ih
   |some r=>
    have h2:=Cw _ _ hr
    rw[vu h1 (by omega)] at h2
    simp only[cond_true]
    rw[acB hl hm hN,decide_eq_true (by simp;omega),cond_true]
    rfl
theorem TC {t:List az} {B:Nat} (hl:t.length≤maxLen) (hm:∀ x∈t,x.met.length≤maxLen∧x.met.length<B) (hB:t.length<B) (Wi:20<B):∀ (n N:Nat) (L:List Int) (kf:List cN→Bool→Option af),L.length≤n→L.length<B→L.length≤1000→B+n+1≤N→S69 N t L kf=M8 (uk t (n+1) L) kf
 |n,0,L,kf,_,_,_,h=>by omega
 |n,N+1,L,kf,h1,h2,h3,h=>by
  show R6 (S69 N) N t L kf=_
  unfold R6 uk
  by_cases h0:L.length=0
  ·rw[decide_eq_true h0,cond_true]
   have:((List.length L:Int)==0)=true:=by simp[h0]
   rw[this];rfl
  ·rw[decide_eq_false h0,cond_false]
   have:((List.length L:Int)==0)=false:=by simp;intro e;exact h0 (by simp[e])
   rw[this,cond_false]
   obtain⟨n,rfl⟩:∃ m,n=m+1:=⟨n - 1,by omega⟩
   have:=C8 (N:=N) (B:=B) (self:=S69 N) (t:=t) (f:=uk t (n+1)) (L:=L) (k0:=kf [] false) (kf:=kf) hl (fun x hx=>⟨(hm x hx).1,by have:=(hm x hx).2;omega⟩) (by omega) (by omega) h3 (fun i k hi1 lP=>by
    have hr:=vu hi1 lP
    exact TC hl hm hB Wi n N (ui L i) k (by omega) (by omega) (by omega) (by omega)) (fun L' r e=>vz (n+1) L' r e) (L.length - 1) 1 N (by omega) (by omega) (by omega)
   refine Eq.trans this ?_
   unfold M8
   cases uj t (uk t (n+1)) L (L.length - 1) 1<;>rfl
def qs (t:List az):Option (List cN):=bif aD t then bif decide (t.length%2=1) then none else uk t (t.length+1) (Aj t) else none
theorem Al {t:List az} (h:aD t=true):(Aj t).length=t.length:=by unfold Aj;rw[h,cond_true,List.length_map,C6]
theorem Am {t:List az} {r:List cN} (h:qs t=some r):2*r.length=t.length∧t.length≤10:=by
 unfold qs at h
 cases dG:aD t with
 |false=>rw[dG] at h;simp at h
 |true=>
  have PF:=dG
  unfold aD at PF
  simp only[Bool.and_eq_true,decide_eq_true_eq] at PF
  rw[dG,cond_true] at h
  by_cases ho:t.length%2=1
  ·rw[decide_eq_true ho] at h;simp at h
  ·rw[decide_eq_false ho,cond_false] at h
   have:=vz _ _ _ h
   rw[Al dG] at this
   exact⟨this,PF.1⟩
theorem air (n:Nat):(Int.tmod (n:Int) 2==1)=decide (n%2=1):=by
 have:Int.tmod (n:Int) 2=((n%2:Nat):Int):=by
  rw[Int.tmod_eq_emod_of_nonneg (by omega)];omega
 rw[this]
 by_cases h:n%2=1
 ·rw[h];rfl
 ·rw[decide_eq_false h];simp;omega
theorem Le {N:Nat} {t:List az} {kf:List cN→Bool→Option af} (hl:t.length≤maxLen) (hm:∀ x∈t,x.met.length≤maxLen∧x.met.length+20<N) (hN:t.length+20<N) (h60:60<N):YG N t kf=M8 (qs t) kf:=by
 have hx:=aW
 unfold YG qs
 rw[mV hl (fun x hx=>⟨(hm x hx).1,by have:=(hm x hx).2;omega⟩) (by omega)]
 cases dG:aD t with
 |false=>rfl
 |true=>
  have PF:=dG
  unfold aD at PF
  simp only[Bool.and_eq_true,decide_eq_true_eq] at PF
  rw[air]
  by_cases ho:t.length%2=1
  ·rw[decide_eq_true ho];rfl
  ·rw[decide_eq_false ho]
   simp only[Bool.not_true,cond_true,cond_false]
   rw[acA hl (fun x hx=>⟨(hm x hx).1,by have:=(hm x hx).2;omega⟩) (by omega)]
   have hs:=Al dG
   exact TC (B:=N - 15) hl (fun x hx=>⟨(hm x hx).1,by have:=(hm x hx).2;omega⟩) (by omega) (by omega) t.length N _ _ (by omega) (by omega) (by omega) (by omega)
end Go.Pv.R
namespace Go.Pv.R
set_option linter.unusedVariables false
set_option linter.unusedSimpArgs false
def um (t:List az) (js:List bu) (p:cN) (used:List Int) (f:List Int→Option (List Int)):Nat→Nat→Option (List Int)
 |0,_=>none
 |k+1,i=>bif pc used (js.getD i ar).1 then um t js p used f k (i+1) else
   bif gW t (js.getD i ar) p then
   (match f (used++[(js.getD i ar).1]) with
    |some r=>some ((js.getD i ar).1::r)
    |none=>um t js p used f k (i+1))
  else um t js p used f k (i+1)
def An (t:List az) (js:List bu):List cN→List Int→Option (List Int)
 |[],_=>some []
 |p::ps,used=>um t js p used (An t js ps) js.length 0
def ais {α β:Type} (o:Option (List α)) (k0:β) (k:List α→Bool→β):β:=match o with |some r=>k r true |none=>k0
theorem Xt {α β:Type} (o:Option (List α)) (k:List α→Bool→β):ais o (k [] false) k=M8 o k:=by cases o<;>rfl
def Lg (js:List bu) (n:Nat) (used r:List Int):Prop:=r.length=n∧r.Nodup∧∀ x∈r,x∈js.map (fun x:bu=>x.1)∧x∉used
theorem qS {t:List az} {js:List bu} {p:cN} {used:List Int} {f:List Int→Option (List Int)} {n:Nat} (hf:∀ u r,f u=some r→Lg js n u r):∀ (k i:Nat) r,i+k=js.length→um t js p used f k i=some r→Lg js (n+1) used r
 |0,i,r,h,e=>by simp[um] at e
 |k+1,i,r,h,e=>by
  unfold um at e
  cases hu:pc used (js.getD i ar).1 with
  |true=>rw[hu,cond_true] at e;exact qS hf k (i+1) r (by omega) e
  |false=>
   rw[hu,cond_false] at e
   cases hm:gW t (js.getD i ar) p with
   |false=>rw[hm,cond_false] at e;exact qS hf k (i+1) r (by omega) e
   |true=>
    rw[hm,cond_true] at e
    cases hr:f (used++[(js.getD i ar).1]) with
    |none=>rw[hr] at e;exact qS hf k (i+1) r (by omega) e
    |some r'=>
     rw[hr] at e
     injection e with e
     subst e
     obtain⟨h1,h2,h3⟩:=hf _ _ hr
     have jc:(js.getD i ar).1∈js.map (fun x:bu=>x.1):=by
      rw[au _ _ (show i<js.length by omega)]
      exact List.mem_map.2 ⟨_,List.getElem_mem _,rfl⟩
     have hnu:(js.getD i ar).1∉used:=fun hc=>by
      have:=jC.2 hc
      rw[hu] at this
      cases this
     refine⟨by simp[h1],List.nodup_cons.2 ⟨fun hc=> ?_,h2⟩,fun x hx=> ?_⟩
     ·have:=(h3 _ hc).2
      simp at this
     ·rcases List.mem_cons.1 hx with rfl |hx
      ·exact⟨jc,hnu⟩
      ·obtain⟨q1,q2⟩:=h3 x hx
       refine⟨q1,fun hc=>q2 ?_⟩
       simp[hc]
theorem Ao {t:List az} {js:List bu}:∀ (ps:List cN) (used r:List Int),An t js ps used=some r→Lg js ps.length used r
 |[],used,r,e=>by
  unfold An at e
  injection e with e
  subst e
  exact⟨rfl,List.nodup_nil,fun x hx=>by simp at hx⟩
 |p::ps,used,r,e=>qS (fun u r e=>Ao ps u r e) js.length 0 r (by omega) e
theorem qt:∀ (r L:List Int),r.Nodup→(∀ x∈r,x∈L)→r.length≤L.length
 |[],L,_,_=>by simp
 |x::r,L,hn,h=>by
  rw[List.nodup_cons] at hn
  have hx:=h x (by simp)
  have h1:=List.length_erase_of_mem hx
  have h2:=List.length_pos_of_mem hx
  have:=qt r (L.erase x) hn.2 fun y hy=>by
   have mo:y≠x:=fun e=>hn.1 (e▸hy)
   exact(List.mem_erase_of_ne mo).2 (h y (by simp[hy]))
  simp only[List.length_cons]
  omega
theorem Xu {p:cN} {ps:List cN}:(decide ((0:Int)≤(1:Int))&&decide ((1:Int)≤(List.length (p::ps):Int))&&decide ((List.length (p::ps):Int)≤(List.length (p::ps):Int)))=true∧List.drop (Int.toNat (1:Int)) (List.take (Int.toNat (List.length (p::ps):Int)) (p::ps))=ps:=by
 constructor
 ·rw[decide_eq_true (by omega),decide_eq_true (by simp only[List.length_cons];omega),decide_eq_true (by omega)];rfl
 ·rw[Int.toNat_natCast,List.take_length];rfl
theorem C9 {N:Nat} {self:List az→List bu→List cN→List Int→(List Int→Bool→Option af)→Option af} {t:List az} {js:List bu} {p:cN} {ps:List cN} {used:List Int} {f:List Int→Option (List Int)} {k0:Option af} {kf:List Int→Bool→Option af}
  (hl:t.length≤maxLen) (hN:t.length<N) (Wi:20<N) (hj:js.length≤1048700) (M9:∀ x∈js,x.2.2.length≤maxLen∧x.2.2.length<N) (hu:used.length≤1000) (huN:used.length<N)
  (hs:∀ (x:Int) k,self t js ps (used++[x]) k=M8 (f (used++[x])) k) (Cw:∀ (u:List Int) r,f u=some r→r.length≤1000):∀ (k i n:Nat),i+k=js.length→k<n→
  pY N self t js (p::ps) used n k0 kf (i:Int)=ais (um t js p used f k i) k0 kf
 |0,i,n+1,h,hn=>by
  simp only[pY]
  rw[decide_eq_false (by omega)]
  rfl
 |k+1,i,n+1,h,hn=>by
  have hx:=aW
  have ih:=C9 (k0:=k0) (kf:=kf) (p:=p) hl hN Wi hj M9 hu huN hs Cw k (i+1) n (by omega) (by omega)
  have ew:IntKind.wrap .i64 ((i:Int)+1)=((i+1:Nat):Int):=kC (m:=js.length) (i:=i) (by omega) (by omega)
  obtain⟨d1,d2⟩:=Xu (p:=p) (ps:=ps)
  have hi:i<js.length:=by omega
  obtain⟨m1,m2⟩:=M9 js[i] (List.getElem_mem hi)
  simp only[pY]
  rw[decide_eq_true (by omega),cond_true,aM hi,cond_true,sS (by omega) huN]
  unfold um
  have eg:js.getD (Int.toNat (i:Int)) ar=js[i]:=au _ _ hi _
  have eg2:js.getD i ar=js[i]:=au _ _ hi _
  rw[eg,eg2]
  cases pc used js[i].1 with
  |true=>
   simp only[cond_true]
   rw[ew]
   exact ih
  |false=>
   simp only[cond_false]
   rw[cond_true,show bw (0:Int) (List.length (p::ps))=true from aM (i:=0) (by simp),cond_true,Tj hl hN m1 m2]
   show(bif !gW t js[i] p then _ else _)=_
   cases gW t js[i] p with
   |false=>
    simp only[Bool.not_false,cond_true,cond_false]
    rw[ew]
    exact ih
   |true=>
    simp only[Bool.not_true,cond_true,cond_false]
    rw[d1,cond_true,d2,decide_eq_true (by simp;omega),cond_true,decide_eq_true (by simp;omega),cond_true,List.nil_append,hs,ew]
    unfold M8
    cases hr:f (used++[js[i].1]) with
    |none=>exact ih
    |some r=>
     have:=Cw _ _ hr
     simp only[cond_true]
     rw[decide_eq_true (by simp;omega),cond_true]
     rfl
theorem TD {t:List az} {js:List bu} {B:Nat} (hl:t.length≤maxLen) (hN:t.length<B) (Wi:20<B) (hj:js.length≤1048700) (hjN:js.length<B) (M9:∀ x∈js,x.2.2.length≤maxLen∧x.2.2.length<B):∀ (ps:List cN) (N:Nat) (used:List Int) (kf:List Int→Bool→Option af),used.length+ps.length≤900→used.length+ps.length<B→B+ps.length+1≤N→S72 N t js ps used kf=M8 (An t js ps used) kf
 |ps,0,used,kf,_,_,h=>by omega
 |[],N+1,used,kf,_,_,_=>rfl
 |p::ps,N+1,used,kf,h1,h2,h=>by
  simp only[List.length_cons] at h h1 h2
  show R7 (S72 N) N t js (p::ps) used kf=_
  unfold R7 An
  have e:((List.length (p::ps):Int)==0)=false:=by simp;omega
  rw[e,cond_false, ←Xt]
  exact C9 (N:=N) (self:=S72 N) (f:=An t js ps) hl (by omega) (by omega) hj (fun x hx=>⟨(M9 x hx).1,by have:=(M9 x hx).2;omega⟩) (by omega) (by omega) (fun x k=>TD hl hN Wi hj hjN M9 ps N _ k (by simp;omega) (by simp;omega) (by omega)) (fun u r e=>by have:=(Ao ps u r e).1;omega) js.length 0 N (by omega) (by omega)
def mY (t:List az) (js:List bu) (ps:List cN):Option (List Int):=bif cX js&&aD t then An t js ps [] else none
theorem Lh {N:Nat} {t:List az} {js:List bu} {ps:List cN} {kf:List Int→Bool→Option af} (hl:t.length≤maxLen) (hm:∀ x∈t,x.met.length≤maxLen∧x.met.length+20<N) (hN:t.length+20<N) (h60:60<N) (hj:js.length≤1048700) (hjN:js.length+20<N) (M9:∀ x∈js,x.2.2.length≤maxLen∧x.2.2.length+20<N) (hp:ps.length≤10):Xh N t js ps kf=M8 (mY t js ps) kf:=by
 have hx:=aW
 unfold Xh mY
 rw[K7 (by omega) (fun x hx=>⟨(M9 x hx).1,by have:=(M9 x hx).2;omega⟩) (by omega)]
 cases cX js with
 |false=>rfl
 |true=>
  simp only[Bool.not_true,cond_false,Bool.true_and]
  rw[mV hl (fun x hx=>⟨(hm x hx).1,by have:=(hm x hx).2;omega⟩) (by omega)]
  cases aD t with
  |false=>rfl
  |true=>exact TD (B:=N - 15) hl (by omega) (by omega) hj (by omega) (fun x hx=>⟨(M9 x hx).1,by have:=(M9 x hx).2;omega⟩) ps N [] kf (by simp;omega) (by simp;omega) (by omega)
def Ap (c:aU) (ps:List cN) (ss:List Int):aU:=(c.1,(c.2.1,(ps,(ss,(List.replicate ps.length ((0:Int),((0:Int),(0:Int))),c.2.2.2.2.2)))))
def xW (c:aU):Bool:=decide (c.2.2.1.length=0)&&decide (0<c.1.length)
def kF (c:aU):aU×Bool:=match qs c.1 with
 |none=>(c,false)
 |some ps=>match mY c.1 c.2.1 ps with
  |none=>(c,false)
  |some ss=>bif xW c then(rB c (Ap c ps ss) 3 0,qj c (Ap c ps ss) 3 0) else(c,false)
theorem TE {c:aU} {N:Nat} {ps:List cN} {ss:List Int} (h:bZ c N) (hp:ps.length≤10) (hs:ss.length≤10) (hN:60<N):bZ (Ap c ps ss) N:=
 ⟨h.tl,h.tm,h.tN,h.jl,h.jm,h.jN,by show ps.length≤_;omega,by show 2*ps.length<_;omega,by show ss.length≤_;omega,by show ss.length<_;omega,by show(List.replicate _ _).length≤_;rw[List.length_replicate];omega,by show(List.replicate _ _).length<_;rw[List.length_replicate];omega,h.ml,h.mN,h.n8,h.tb,h.YW,h.jb,h.YX⟩
theorem sV {t:List az} {js:List bu} {ps:List cN} {ss:List Int} (h:mY t js ps=some ss):ss.length=ps.length:=by
 unfold mY at h
 cases hb:(cX js&&aD t) with
 |false=>rw[hb] at h;simp at h
 |true=>rw[hb,cond_true] at h;exact(Ao _ _ _ h).1
theorem acC {N:Nat} {c:aU} {kf:aU→Bool→Option af} (h:bZ c N) (h':bZ c (N - 40)) (hN:200<N) (hl:c.2.2.2.2.2.1.length+1<N):S31 N c kf=kf (kF c).1 (kF c).2:=by
 have hx:=aW
 have t1:=h'.tN
 have t2:=h'.jN
 have t3:=h'.tm
 have t4:=h'.jm
 have hj:=h.jb
 have htm:∀ x:az,x∈c.1→x.met.length≤maxLen∧x.met.length+20<N:=fun x hx=>⟨(t3 x hx).1,by have:=(t3 x hx).2;omega⟩
 have M9:∀ x∈c.2.1,x.2.2.length≤maxLen∧x.2.2.length+20<N:=fun x hx=>⟨(t4 x hx).1,by have:=(t4 x hx).2;omega⟩
 have q9:∀ out cZ kD,P4 N c out false cZ kD kf=kf c false:=fun out cZ kD=>(vp (out:=out) h (fun e=>by cases e) hN hl)
 unfold S31 kF
 rw[vo h,Le h.tl htm (by omega) (by omega)]
 unfold M8
 cases hr:qs c.1 with
 |none=>
  simp only[]
  rw[Lh h.tl htm (by omega) (by omega) hj (by omega) M9 (by simp)]
  unfold M8
  cases mY c.1 c.2.1 []<;>exact q9 _ _ _
 |some ps=>
  obtain⟨l1,l2⟩:=Am hr
  simp only[]
  rw[Lh h.tl htm (by omega) (by omega) hj (by omega) M9 (by omega)]
  unfold M8
  have e0:(decide ((List.length ps:Int)=(List.length ps:Int))&&decide ((0:Int)≤(List.length ps:Int))&&decide ((List.length ps:Int)≤1099511627776))=true:=by
   rw[decide_eq_true rfl,decide_eq_true (by omega),decide_eq_true (by omega)];rfl
  have e0t:(decide True&&decide ((0:Int)≤(List.length ps:Int))&&decide ((List.length ps:Int)≤1099511627776))=true:=by
   rw[decide_eq_true trivial,decide_eq_true (by omega),decide_eq_true (by omega)];rfl
  cases hs:mY c.1 c.2.1 ps with
  |none=>
   simp only[]
   first |rw[e0] |rw[e0t]
   exact q9 _ _ _
  |some ss=>
   have l3:=sV hs
   have hd:=fun ok=>vp (out:=Ap c ps ss) (ok:=ok) (cZ:=3) (kD:=0) (kf:=kf) h (fun _=>TE h (by omega) (by omega) (by omega)) hN hl
   simp only[]
   first |rw[e0] |rw[e0t]
   simp only[cond_true]
   unfold S48 xW
   by_cases cQ:c.2.2.1.length=0
   ·rw[decide_eq_false (show ¬(List.length c.2.2.1:Int)>0 by omega),decide_eq_true cQ]
    simp only[Bool.not_false,cond_true,Bool.true_and]
    have e2:decide ((List.length c.1:Int)>(0:Int))=decide (0<c.1.length):=decide_eq_decide.2 (by omega)
    rw[e2]
    refine(hd (decide (0<c.1.length))).trans ?_
    cases decide (0<c.1.length)<;>rfl
   ·rw[decide_eq_true (show(List.length c.2.2.1:Int)>0 by omega),decide_eq_false cQ]
    exact q9 _ _ _
end Go.Pv.R
namespace Go.Pv.R
set_option linter.unusedVariables false
set_option linter.unusedSimpArgs false
def ofM (b:gn):Int:=bif decide (b.2.1>b.2.2) then 1 else 2
theorem C' (b:gn):ofM b=1∨ofM b=2:=by
 unfold ofM
 cases decide (b.2.1>b.2.2)<;>simp
theorem acD {N:Nat} {b:gn} {kf:Int→Option af}:S80 N b kf=kf (ofM b):=by
 unfold S80 ofM
 cases decide (b.2.1>b.2.2)<;>rfl
theorem M' {N:Nat} {b:gn} {kf:Bool→Option af} (hN:2<N):S77 N [b] kf=kf (dL b):=by
 have hm:=aW
 unfold S77
 rw[SV (by simp;omega) (by simp;omega)]
 simp only[s4,K8]
 cases dL b<;>rfl
def TF (b:gn) (k:Int):Int:=bif ofM b==k then 1 else 0
theorem Xv {N:Nat} {b:gn} {k:Int} {kf:Int→Option af} (hN:2<N) (hb:dL b=true):S78 N [b] k kf=kf (TF b k):=by
 have hm:=aW
 unfold S78 TF
 rw[SW (by simp;omega) (by simp;omega)]
 simp only[eh,M' hN,hb,cond_true,acD]
 cases ofM b==k<;>rfl
theorem Xw {N:Nat} {b:gn} {kf:Int→Option af} (hN:2<N) (hb:dL b=true):S54 N [b] kf=kf (ofM b):=by
 unfold S54
 have e:((List.length [b]:Int)==(0:Int))=false:=rfl
 rw[e,cond_false,M' hN,hb]
 simp only[Bool.not_true,cond_false,Xv hN hb]
 unfold TF
 rcases C' b with h |h<;>rw[h]<;>rfl
def two {α:Type} (t:List α) (i j:Nat) (x y:α):List α:=(t.set i x).set j y
section
variable {α:Type} {t:List α} {i j:Nat} {x y x' y' z:α}
theorem Ef:(two t i j x y).length=t.length:=by simp[two]
theorem TG (h:i≠j) (hi:i<t.length):(two t i j x y).getD i z=x:=by
 rw[List.getD_eq_getElem?_getD,two,List.getElem?_set_ne (by omega),List.getElem?_set_self hi];rfl
theorem TH (hj:j<t.length):(two t i j x y).getD j z=y:=by
 rw[List.getD_eq_getElem?_getD,two,List.getElem?_set_self (by simpa using hj)];rfl
theorem TJ (h:i≠j):(two t i j x y).set i x'=two t i j x' y:=by
 unfold two
 rw[List.set_comm _ _ (fun e=>h e.symm),List.set_set]
theorem TK:(two t i j x y).set j y'=two t i j x y':=by
 unfold two
 rw[List.set_set]
theorem HI (h:i≠j):(t.set i x).getD j z=t.getD j z:=by
 rw[List.getD_eq_getElem?_getD,List.getElem?_set_ne (by omega), ←List.getD_eq_getElem?_getD]
theorem Xx:(t.set i x).set j y=two t i j x y:=by rw[two]
end
def Aq (t:List az) (i:Nat) (b d p:Int):az:=((t.getD i ab).1,((t.getD i ab).2.1,((bif d==1 then IntKind.wrap .i64 ((t.getD i ab).2.2.1+1) else(t.getD i ab).2.2.1),(IntKind.wrap .i64 ((t.getD i ab).2.2.2.1+p),(IntKind.wrap .i64 ((t.getD i ab).2.2.2.2.1+1),(t.getD i ab).2.2.2.2.2++[b])))))
def qu (t:List az) (j:Nat) (a d q:Int):az:=((t.getD j ab).1,((t.getD j ab).2.1,((bif d==1 then(t.getD j ab).2.2.1 else IntKind.wrap .i64 ((t.getD j ab).2.2.1+1)),(IntKind.wrap .i64 ((t.getD j ab).2.2.2.1+q),((t.getD j ab).2.2.2.2.1,(t.getD j ab).2.2.2.2.2++[a])))))
def mZ (t:List az) (a b d p q:Int):List az:=two t (aF t a).toNat (aF t b).toNat (Aq t (aF t a).toNat b d p) (qu t (aF t b).toNat a d q)
def Eg (t:List az) (a b d p q:Int):Bool:=aD t&&(decide (aF t a≥0)&&(decide (aF t b≥0)&&((aF t a != aF t b)&&(ic d 1 2&&(ic p 0 1000&&ic q 0 1000)))))
def o3 (t:List az) (a b d p q:Int):Bool:=Eg t a b d p q&&aD (mZ t a b d p q)
def vA (t:List az) (a b d p q:Int):List az:=bif o3 t a b d p q then mZ t a b d p q else t
theorem Ar {t:List az} {a b d p q:Int} {N:Nat} (ha:aF t a≥0) (hb:aF t b≥0) (h:∀ x:az,x∈t→x.met.length+1<N):∀ x:az,x∈mZ t a b d p q→x.met.length<N:=by
 intro x hx
 unfold mZ two at hx
 rcases List.mem_or_eq_of_mem_set hx with hx |rfl
 ·rcases List.mem_or_eq_of_mem_set hx with hx |rfl
  ·have:=h x hx;omega
  ·have:=h _ (gB ha).1
   show((t.getD (aF t a).toNat ab).2.2.2.2.2++[b]).length<N
   rw[List.length_append];exact this
 ·have:=h _ (gB hb).1
  show((t.getD (aF t b).toNat ab).2.2.2.2.2++[a]).length<N
  rw[List.length_append];exact this
theorem TL {N:Nat} {t:List az} {a b d p q:Int} {kf:List az→Bool→Option af} (hl:t.length≤1048700) (hm:∀ x:az,x∈t→x.met.length≤1048700∧x.met.length+1<N) (hN:t.length<N):Yw N t a b d p q kf=kf (vA t a b d p q) (o3 t a b d p q):=by
 have hx:=aW
 have Ym:∀ x∈t,x.met.length≤maxLen∧x.met.length<N:=fun x hx=>by have:=hm x hx;omega
 unfold Yw vA o3 Eg
 rw[zY hl (fun x hx=>(hm x hx).1) hN,mU (by omega) hN,mU (by omega) hN,mV (by omega) Ym hN]
 simp only[lY]
 cases aD t with
 |false=>rfl
 |true=>
  by_cases ha:aF t a≥0
  rotate_left
  ·rw[decide_eq_true (show aF t a<0 by omega),decide_eq_false ha];rfl
  by_cases hb:aF t b≥0
  rotate_left
  ·rw[decide_eq_false (show ¬aF t a<0 by omega),decide_eq_true ha,decide_eq_true (show aF t b<0 by omega),decide_eq_false hb];rfl
  have hT:∀ x:az,x∈mZ t a b d p q→x.met.length<N:=Ar ha hb fun x hx=>(hm x hx).2
  have hT2:∀ x:az,x∈mZ t a b d p q→x.met.length<1048800:=Ar ha hb fun x hx=>by have:=(hm x hx).1;omega
  obtain⟨i,hi,ei,_⟩:=cp (p:=fun x:az=>x.1==a) (l:=t) (by unfold aF at ha;omega)
  obtain⟨j,hj,ej,_⟩:=cp (p:=fun x:az=>x.1==b) (l:=t) (by unfold aF at hb;omega)
  have ei:aF t a=(i:Int):=ei
  have ej:aF t b=(j:Int):=ej
  unfold mZ at hT hT2 ⊢
  rw[ei,ej] at hT hT2 ⊢
  simp only[Int.toNat_natCast] at hT hT2 ⊢
  rw[decide_eq_true (show(i:Int)≥0 by omega),decide_eq_true (show(j:Int)≥0 by omega),decide_eq_false (show ¬(i:Int)<0 by omega),decide_eq_false (show ¬(j:Int)<0 by omega)]
  simp only[Bool.not_true,cond_false,Bool.true_and]
  by_cases xz:i=j
  ·subst xz;simp
  have e1:((i:Int)==(j:Int))=false:=by simpa using fun e=>xz (by omega)
  have e2:((i:Int) != (j:Int))=true:=by simp only[bne,e1];rfl
  rw[e1,e2]
  cases ic d 1 2 with
  |false=>rfl
  |true=>
  cases ic p 0 1000 with
  |false=>rfl
  |true=>
  cases ic q 0 1000 with
  |false=>rfl
  |true=>
  have li:=(hm _ (List.getElem_mem hi)).1
  have lj:=(hm _ (List.getElem_mem hj)).1
  have gi:t.getD i ab=t[i]:=au _ _ hi _
  have gj:t.getD j ab=t[j]:=au _ _ hj _
  have b1:decide ((List.length (t.getD i ab).2.2.2.2.2+List.length [b])*1≤4398046511104)=true:=by rw[gi];exact decide_eq_true (by have:t[i].2.2.2.2.2.length≤1048700:=li;simp;omega)
  have b2:decide ((List.length (t.getD j ab).2.2.2.2.2+List.length [a])*1≤4398046511104)=true:=by rw[gj];exact decide_eq_true (by have:t[j].2.2.2.2.2.length≤1048700:=lj;simp;omega)
  simp only[HI xz,List.length_set,aM hi,aM hj,cond_true,cond_false,Bool.not_true,b1,b2,Nat.beq_refl,share,Xx,Ef,TG xz hi,TH hj,TJ xz,TK,Bool.true_and]
  have hW:(two t i j (Aq t i b d p) (qu t j a d q)).length=t.length:=Ef
  have key:DU N t kf (two t i j (Aq t i b d p) (qu t j a d q))=kf (bif aD (two t i j (Aq t i b d p) (qu t j a d q)) then two t i j (Aq t i b d p) (qu t j a d q) else t) (aD (two t i j (Aq t i b d p) (qu t j a d q))):=by
   unfold DU
   rw[mV (by omega) (fun x hx=>⟨by have:=hT2 x hx;omega,hT x hx⟩) (by omega)]
   cases aD (two t i j (Aq t i b d p) (qu t j a d q)) with
   |false=>simp only[Bool.not_false,cond_true,cond_false];rw[zY hl (fun x hx=>(hm x hx).1) hN]
   |true=>rfl
  refine Eq.trans ?_ key
  unfold Aq qu
  cases d==1<;>rfl
end Go.Pv.R
namespace Go.Pv
set_option linter.unusedVariables false
theorem Da {α β:Type} {f:α→β} {p:β→Bool}:∀ (l:List α) (i:Nat),jV p (l.map f) i=jV (fun x=>p (f x)) l i
 |[],_=>rfl
 |x::r,i=>by
  simp only[List.map_cons,jV,Da r]
theorem rG {α β:Type} {c:Nat→α→Bool} {f:Nat→α→β}:∀ (l:List α) (i:Nat),(cb c f l i).length=0→∀ (j:Nat) (h:j<l.length),c (i+j) l[j]=false
 |[],i,_,j,h=>by simp at h
 |x::r,i,hl,j,h=>by
  simp only[cb] at hl
  cases hc:c i x with
  |true=>rw[hc] at hl;simp at hl
  |false=>
   rw[hc,cond_false] at hl
   cases j with
   |zero=>exact hc
   |succ j=>have:=rG r (i+1) hl j (by simpa using h);rw[show i+(j+1)=i+1+j by omega];exact this
end Go.Pv
namespace Go.Pv.R
set_option linter.unusedVariables false
set_option linter.unusedSimpArgs false
theorem PG {l m:List bu} {id:Int} (h:l.map (fun x:bu=>x.1)=m.map fun x:bu=>x.1):eC l id=eC m id:=by
 unfold eC lZ
 have e:∀ l:List bu,jV (fun x:bu=>x.1==id) l 0=jV (fun y:Int=>y==id) (l.map fun x:bu=>x.1) 0:=fun l=>(Da (f:=fun x:bu=>x.1) (p:=fun y:Int=>y==id) l 0).symm
 rw[e l,e m,h]
theorem sW {t:List az} {a b d p q:Int} (h:o3 t a b d p q=true):aF t a≥0∧aF t b≥0:=by
 unfold o3 Eg at h
 simp only[Bool.and_eq_true,decide_eq_true_eq] at h
 exact⟨h.1.2.1,h.1.2.2.1⟩
theorem As {t:List az} {a b d p q:Int}:(vA t a b d p q).length=t.length:=by
 unfold vA
 cases o3 t a b d p q with
 |false=>rfl
 |true=>exact Ef
theorem HJ {t:List az} {a b d p q:Int} {M:Nat} (h:∀ x:az,x∈t→x.met.length≤M):∀ x:az,x∈vA t a b d p q→x.met.length≤M+1:=by
 intro x hx
 unfold vA at hx
 cases hb:o3 t a b d p q with
 |false=>rw[hb,cond_false] at hx;have:=h x hx;omega
 |true=>
  rw[hb,cond_true] at hx
  have:=Ar (N:=M+2) (sW hb).1 (sW hb).2 (fun x hx=>by have:=h x hx;omega) x hx
  omega
def TM (js:List bu) (k:Nat) (a b:Int):List bu:=js.set k ((js.getD k ar).1,((js.getD k ar).2.1,l4 (l4 (js.getD k ar).2.2 a) b))
theorem TN {js:List bu} {k:Nat} {a b:Int} (hk:k<js.length):(TM js k a b).map (fun x:bu=>x.1)=js.map fun x:bu=>x.1:=by
 unfold TM
 rw[List.map_set]
 apply List.ext_getElem (by simp)
 intro i h1 h2
 rw[List.getElem_set]
 split
 ·rename_i e
  subst e
  rw[au _ _ hk]
  simp
 ·rfl
theorem TO {js:List bu} {k:Nat} {a b:Int} {M:Nat} (hk:k<js.length) (h:∀ x:bu,x∈js→PA x.2.2∧x.2.2.length≤M):∀ x:bu,x∈TM js k a b→PA x.2.2∧x.2.2.length≤M+2:=by
 intro x hx
 unfold TM at hx
 rcases List.mem_or_eq_of_mem_set hx with hx |rfl
 ·have:=h x hx;exact⟨this.1,by omega⟩
 ·have:=h (js.getD k ar) (by rw[au _ _ hk];exact List.getElem_mem hk)
  have l1:=uf (js.getD k ar).2.2 a
  have l2:=uf (l4 (js.getD k ar).2.2 a) b
  refine⟨z6 (z6 this.1), ?_⟩
  show(l4 (l4 (js.getD k ar).2.2 a) b).length≤M+2
  omega
def o4 (c:aU) (i:Nat):gn:=c.2.2.2.2.1.getD i aT
def fu (c:aU) (i:Nat):Int:=c.2.2.2.1.getD i 0
def HK (c:aU) (i:Nat) (x:cN) (s:aU):Bool:=o3 s.1 x.1 x.2 (ofM (o4 c i)) (o4 c i).2.1 (o4 c i).2.2
def At (c:aU) (i:Nat) (x:cN) (s:aU):aU:=(vA s.1 x.1 x.2 (ofM (o4 c i)) (o4 c i).2.1 (o4 c i).2.2,(TM s.2.1 (eC s.2.1 (fu c i)).toNat x.1 x.2,s.2.2))
def eO (c:aU):List cN→Nat→aU→Bool→aU×Bool
 |[],_,s,ok=>(s,ok)
 |x::r,i,s,ok=>eO c r (i+1) (At c i x s) (ok&&HK c i x s)
structure oI (c:aU):Prop where
 t10:c.1.length≤10
 tm:∀ x:az,x∈c.1→x.met.length≤20
 TP:c.2.1.length≤10
 js:∀ x:bu,x∈c.2.1→PA x.2.2∧x.2.2.length≤99
 Wj:c.2.2.1.length≤10
 sl:c.2.2.2.1.length=c.2.2.1.length
 bl:c.2.2.2.2.1.length=c.2.2.1.length
 sf:∀ i,i<c.2.2.1.length→eC c.2.1 (fu c i)≥0
 bb:∀ i,i<c.2.2.1.length→dL (o4 c i)=true
structure eP (c:aU) (i:Nat) (s:aU):Prop where
 tl:s.1.length=c.1.length
 tm:∀ x:az,x∈s.1→x.met.length≤20+i
 ji:s.2.1.map (fun x:bu=>x.1)=c.2.1.map fun x:bu=>x.1
 js:∀ x:bu,x∈s.2.1→PA x.2.2∧x.2.2.length≤99+2*i
 re:s.2.2=c.2.2
theorem eP.ait {c s:aU} {i:Nat} (h:eP c i s):s.2.1.length=c.2.1.length:=by
 have:=congrArg List.length h.ji
 simpa using this
theorem eP.fjd {c s:aU} {i:Nat} (h:eP c i s) (id:Int):eC s.2.1 id=eC c.2.1 id:=PG h.ji
theorem Au {c s:aU} {i:Nat} {x:cN} (hc:oI c) (hi:i<c.2.2.1.length) (h:eP c i s):eP c (i+1) (At c i x s):=by
 have hf:=hc.sf i hi
 rw[←h.fjd] at hf
 have hk:=(zW hf).2
 exact⟨by rw[←h.tl];exact As,fun y hy=>by have:=HJ h.tm y hy;omega,by rw[←h.ji];exact TN hk,fun y hy=>by have:=TO hk h.js y hy;exact⟨this.1,by omega⟩,h.re⟩
theorem Aw {c:aU} (hc:oI c):∀ (r:List cN) (i:Nat) (s:aU) (ok:Bool),i+r.length=c.2.2.1.length→eP c i s→eP c c.2.2.1.length (eO c r i s ok).1
 |[],i,s,ok,h,hs=>by
  simp at h
  subst h
  exact hs
 |x::r,i,s,ok,h,hs=>by
  simp only[List.length_cons] at h
  exact Aw hc r (i+1) _ _ (by omega) (Au hc (by omega) hs)
theorem uo {c:aU}:∀ (r:List cN) (i:Nat) (s:aU),(eO c r i s false).2=false
 |[],i,s=>rfl
 |x::r,i,s=>by
  unfold eO
  rw[Bool.false_and]
  exact uo r (i+1) _
theorem o5 {N:Nat} {c:aU} {k:aU→Bool→Option af} {body:Nat→cN→aU→Bool→(aU→Bool→Option af)→Option af}
  (hb:∀ (i:Nat) (x:cN) (s:aU) (ok:Bool) (next:aU→Bool→Option af),i<c.2.2.1.length→eP c i s→body i x s ok next=next (At c i x s) (ok&&HK c i x s)) (hc:oI c):∀ (r:List cN) (i:Nat) (s:aU) (ok:Bool),i+r.length=c.2.2.1.length→eP c i s→Pr body k r i s ok=k (eO c r i s ok).1 (eO c r i s ok).2
 |[],i,s,ok,h,hs=>rfl
 |x::r,i,s,ok,h,hs=>by
  simp only[List.length_cons] at h
  simp only[Pr]
  rw[hb i x s ok _ (by omega) hs]
  exact o5 (N:=N) hb hc r (i+1) _ _ (by omega) (Au hc (by omega) hs)
theorem xD {N:Nat} {c s:aU} {i:Nat} {x:cN} {next:aU→Bool→Option af} {ok:Bool} (hc:oI c) (aj1:200<N) (hi:i<c.2.2.1.length) (h:eP c i s):
  (bif (bw (i:Int) (List.length c.2.2.2.2.1)) then
     S54 N [(List.getD c.2.2.2.2.1 (Int.toNat (i:Int)) aT)] (fun(zJ:Int)=>
      Yw N s.1 x.1 x.2 zJ (List.getD c.2.2.2.2.1 (Int.toNat (i:Int)) aT).2.1 (List.getD c.2.2.2.2.1 (Int.toNat (i:Int)) aT).2.2 (fun(p7:(List ah)) (zK:Bool)=>
       bif ok then
        bif (bw (i:Int) (List.length c.2.2.2.1)) then
         R0 N s.2.1 (List.getD c.2.2.2.1 (Int.toNat (i:Int)) (0:Int)) (fun(eL:Int)=>
          bif (bw eL (List.length s.2.1)) then
           KW N (List.getD s.2.1 (Int.toNat eL) ar).2.2 x.1 (fun(zL:(List Int))=>
            KW N zL x.2 (fun(tZ:(List Int))=>
             bif (bw eL (List.length s.2.1)) then
              next (p7,((List.set s.2.1 (Int.toNat eL) ((List.getD s.2.1 (Int.toNat eL) ar).1,((List.getD s.2.1 (Int.toNat eL) ar).2.1,tZ))),s.2.2)) zK
             else none))
          else none)
        else none
       else
        bif (bw (i:Int) (List.length c.2.2.2.1)) then
         R0 N s.2.1 (List.getD c.2.2.2.1 (Int.toNat (i:Int)) (0:Int)) (fun(eM:Int)=>
          bif (bw eM (List.length s.2.1)) then
           KW N (List.getD s.2.1 (Int.toNat eM) ar).2.2 x.1 (fun(zM:(List Int))=>
            KW N zM x.2 (fun(ua:(List Int))=>
             bif (bw eM (List.length s.2.1)) then
              next (p7,((List.set s.2.1 (Int.toNat eM) ((List.getD s.2.1 (Int.toNat eM) ar).1,((List.getD s.2.1 (Int.toNat eM) ar).2.1,ua))),s.2.2)) false
             else none))
          else none)
        else none))
    else none)=next (At c i x s) (ok&&HK c i x s):=by
 have hx:=aW
 have Wj:=hc.Wj
 have t10:=hc.t10
 have TP:=hc.TP
 have tl:=h.tl
 have jl:=h.ait
 have hf:=hc.sf i hi
 rw[←h.fjd] at hf
 obtain⟨f1,f2⟩:=zW hf
 have eb:List.getD c.2.2.2.2.1 (Int.toNat (i:Int)) aT=o4 c i:=rfl
 have es:List.getD c.2.2.2.1 (Int.toNat (i:Int)) (0:Int)=fu c i:=rfl
 have hj:=h.js (List.getD s.2.1 (eC s.2.1 (fu c i)).toNat ar) (by rw[au _ _ f2];exact List.getElem_mem f2)
 have l1:=uf (List.getD s.2.1 (eC s.2.1 (fu c i)).toNat ar).2.2 x.1
 rw[eb,es,aM (show i<c.2.2.2.2.1.length by rw[hc.bl];exact hi),aM (show i<c.2.2.2.1.length by rw[hc.sl];exact hi),cond_true,Xw (by omega) (hc.bb i hi),TL (by omega) (fun y hy=>by have:=h.tm y hy;omega) (by omega)]
 simp only[cond_true,Tg (N:=N) (l:=s.2.1) (id:=fu c i) (by omega) (by omega),f1,Tp (N:=N) (l:=(List.getD s.2.1 (eC s.2.1 (fu c i)).toNat ar).2.2) (n:=x.1) (by omega) (by omega),Tp (N:=N) (l:=l4 (List.getD s.2.1 (eC s.2.1 (fu c i)).toNat ar).2.2 x.1) (n:=x.2) (by omega) (by omega)]
 cases ok with
 |true=>rfl
 |false=>rfl
end Go.Pv.R
namespace Go.Pv.R
set_option linter.unusedVariables false
set_option linter.unusedSimpArgs false
theorem HL {s:List Int} (h:M1 s=true):PA s∧s.length≤99:=by
 unfold M1 at h
 rw[dS] at h
 have step:∀ (i:Nat) (hi:i<s.length),(1≤s[i]∧s[i]≤99)∧(0<i→s.getD (i - 1) 0<s[i]):=fun i hi=>by
  have:=h i hi
  rw[Nat.zero_add] at this
  simp only[Bool.and_eq_true,Bool.or_eq_true,decide_eq_true_eq,jg] at this
  exact⟨this.1,fun h0=>by omega⟩
 have mono:∀ (i:Nat) (hi:i<s.length) (j:Nat) (hj:j<i),s[j]'(by omega)<s[i]:=by
  intro i
  induction i with
  |zero=>intro hi j hj;omega
  |succ i ih=>
   intro hi j hj
   have h1:=(step (i+1) hi).2 (by omega)
   rw[Nat.add_sub_cancel,au _ _ (show i<s.length by omega)] at h1
   rcases Nat.lt_or_eq_of_le (Nat.le_of_lt_succ hj) with h2 |rfl
   ·have:=ih (by omega) j h2;omega
   ·exact h1
 have ha:PA s:=List.pairwise_iff_getElem.2 fun j i hj hi kd=>mono i hi j kd
 refine⟨ha, ?_⟩
 have hn:s.Nodup:=ha.imp fun h=>by omega
 have:=qt s ((List.range 100).map fun n:Nat=>(n:Int)) hn fun x hx=>by
  obtain⟨i,hi,rfl⟩:=List.mem_iff_getElem.1 hx
  have:=(step i hi).1
  exact List.mem_map.2 ⟨s[i].toNat,by rw[List.mem_range];omega,by omega⟩
 have h0:(0:Int)∉s:=fun hc=>by
  obtain⟨i,hi,e⟩:=List.mem_iff_getElem.1 hc
  have:=(step i hi).1
  omega
 have:=qt (0::s) ((List.range 100).map fun n:Nat=>(n:Int)) (List.nodup_cons.2 ⟨h0,hn⟩) fun x hx=>by
  rcases List.mem_cons.1 hx with rfl |hx
  ·exact List.mem_map.2 ⟨0,by simp,rfl⟩
  ·obtain⟨i,hi,rfl⟩:=List.mem_iff_getElem.1 hx
   have:=(step i hi).1
   exact List.mem_map.2 ⟨s[i].toNat,by rw[List.mem_range];omega,by omega⟩
 simp only[List.length_cons,List.length_map,List.length_range] at this
 omega
theorem Xy {c:aU} (hc:c9 c=true) (hr:c.2.2.1.length≠0) (hw:(bc c).length=0):oI c:=by
 obtain⟨l1,l2⟩:=qk hc
 unfold c9 at hc
 simp only[Bool.and_eq_true,Bool.or_eq_true,decide_eq_true_eq] at hc
 obtain⟨ht,hj,_,_,_,hs,hb,_⟩:=hc
 have hs:fP c.1 c.2.2.1=true∧ek c.1 c.2.1 c.2.2.1 c.2.2.2.1=true:=hs.resolve_left hr
 obtain⟨_,hs⟩:=hs
 unfold ek at hs
 simp only[Bool.and_eq_true,decide_eq_true_eq] at hs
 obtain⟨_,_,hs⟩:=hs
 rw[dS] at hs
 unfold aD at ht
 simp only[Bool.and_eq_true,decide_eq_true_eq] at ht
 obtain⟨t10,htp,_⟩:=ht
 unfold cX at hj
 simp only[Bool.and_eq_true,decide_eq_true_eq] at hj
 obtain⟨TP,hjp⟩:=hj
 rw[dS] at htp hjp hb
 have sP:∀ i,i<c.2.2.1.length→eC c.2.1 (fu c i)≥0∧pc (c.2.2.2.1.take i) (fu c i)=false:=fun i hi=>by
  have:=hs i hi
  rw[Nat.zero_add] at this
  unfold zX at this
  simp only[Bool.and_eq_true,decide_eq_true_eq,Bool.not_eq_true'] at this
  exact⟨this.1,this.2.1⟩
 have hn:c.2.2.2.1.Nodup:=List.pairwise_iff_getElem.2 fun i j hi hj xz e=>by
  have h1:=(sP j (by omega)).2
  have h2:pc (c.2.2.2.1.take j) (fu c j)=true:=by
   rw[jC]
   unfold fu
   rw[au _ _ hj, ←e]
   exact List.mem_iff_getElem.2 ⟨i,by rw[List.length_take];omega,by rw[List.getElem_take]⟩
  rw[h1] at h2
  cases h2
 have hle:=qt c.2.2.2.1 (c.2.1.map fun x:bu=>x.1) hn fun x hx=>by
  obtain⟨i,hi,rfl⟩:=List.mem_iff_getElem.1 hx
  have h1:=(sP i (by omega)).1
  unfold fu at h1
  rw[au _ _ hi] at h1
  obtain⟨k,hk,e,h2,_⟩:=cp (p:=fun x:bu=>x.1==c.2.2.2.1[i]) (l:=c.2.1) (by unfold eC at h1;omega)
  exact List.mem_map.2 ⟨c.2.1[k],List.getElem_mem hk,by simpa using h2⟩
 rw[List.length_map] at hle
 refine⟨t10,fun x hx=> ?_,TP,fun x hx=> ?_,by omega,l1,l2,fun i hi=>(sP i hi).1,fun i hi=> ?_⟩
 ·obtain⟨i,hi,rfl⟩:=List.mem_iff_getElem.1 hx
  have:=htp i hi
  unfold j9 at this
  simp only[Bool.and_eq_true,decide_eq_true_eq] at this
  exact this.2.2.2.2.2.1
 ·obtain⟨i,hi,rfl⟩:=List.mem_iff_getElem.1 hx
  have:=hjp i hi
  unfold sT at this
  simp only[Bool.and_eq_true,decide_eq_true_eq] at this
  exact HL this.2.2.2
 ·have lP:i<c.2.2.2.2.1.length:=by omega
  have h1:=rG c.2.2.2.2.1 0 hw i lP
  have h2:=hb i lP
  rw[Nat.zero_add] at h2
  unfold oA at h2
  simp only[h1,Bool.false_or,Bool.and_eq_true] at h2
  unfold o4
  rw[au _ _ lP]
  exact h2.1
def Li (c s:aU):aU:=(s.1,(s.2.1,([],([],([],(s.2.2.2.2.2.1,IntKind.wrap .i64 (c.2.2.2.2.2.2+(List.length c.2.2.1:Int))))))))
def nG (c:aU):Bool:=c9 c&&(decide (c.2.2.1.length≠0)&&decide ((bc c).length=0))
def iT (c:aU):aU×Bool:=bif nG c&&(eO c c.2.2.1 0 c true).2 then(rB c (Li c (eO c c.2.2.1 0 c true).1) 5 0,qj c (Li c (eO c c.2.2.1 0 c true).1) 5 0) else(c,false)
theorem Db {c:aU} (hc:oI c):eP c 0 c:=⟨rfl,fun x hx=>by have:=hc.tm x hx;omega,rfl,fun x hx=>by have:=hc.js x hx;exact⟨this.1,by omega⟩,rfl⟩
theorem Xz {c s:aU} {N:Nat} (h:bZ c N) (hc:oI c) (hs:eP c c.2.2.1.length s) (hN:200<N):bZ (Li c s) N:=by
 have hx:=aW
 have Wj:=hc.Wj
 have t10:=hc.t10
 have TP:=hc.TP
 have tl:=hs.tl
 have jl:=hs.ait
 have ht:∀ x:az,x∈s.1→x.met.length≤40:=fun x hx=>by have:=hs.tm x hx;omega
 have hj:∀ x:bu,x∈s.2.1→x.2.2.length≤140:=fun x hx=>by have:=(hs.js x hx).2;omega
 have hre:s.2.2.2.2.2.1=c.2.2.2.2.2.1:=by rw[hs.re]
 exact⟨by show s.1.length≤_;omega,fun x hx=>⟨by have:=ht x hx;omega,by have:=ht x hx;omega⟩,by show s.1.length<_;omega,by show s.2.1.length≤_;omega,fun x hx=>⟨by have:=hj x hx;omega,by have:=hj x hx;omega⟩,by show s.2.1.length<_;omega,by show 0≤_;omega,by show 2*0<_;omega,by show 0≤_;omega,by show 0<_;omega,by show 0≤_;omega,by show 0<_;omega,by show s.2.2.2.2.2.1.length≤_;rw[hre];exact h.ml,by show s.2.2.2.2.2.1.length<_;rw[hre];exact h.mN,h.n8,by show s.1.length≤_;omega,fun x hx=>by have:=ht x hx;omega,by show s.2.1.length≤_;omega,fun x hx=>by have:=hj x hx;omega⟩
theorem Na (n:Nat):decide ((n:Int)>(0:Int))= !decide (n=0):=by
 by_cases h:n=0
 ·rw[decide_eq_false (by omega),decide_eq_true h];rfl
 ·rw[decide_eq_true (by omega),decide_eq_false h];rfl
theorem acE {N:Nat} {c:aU} {kf:aU→Bool→Option af} (h:bZ c N) (hN:200<N) (hl:c.2.2.2.2.2.1.length+1<N):S32 N c kf=kf (iT c).1 (iT c).2:=by
 have hx:=aW
 have hr:=h.rl
 have GQ:=h.rN
 unfold S32 iT nG
 rw[vo h,D7 h]
 cases hc:c9 c with
 |false=>rfl
 |true=>
  simp only[Bool.not_true,cond_false,Bool.true_and]
  unfold S48
  rw[Na]
  by_cases cQ:c.2.2.1.length=0
  ·rw[decide_eq_true cQ,decide_eq_false (fun e=>e cQ)];rfl
  ·rw[decide_eq_false cQ,decide_eq_true cQ]
   simp only[Bool.not_true,Bool.not_false,cond_false,Bool.true_and]
   rw[K9 h,Na]
   by_cases hw:(bc c).length=0
   rotate_left
   ·rw[decide_eq_false hw];rfl
   ·rw[decide_eq_true hw]
    have ho:=Xy hc cQ hw
    have hi:=Aw ho c.2.2.1 0 c true (by omega) (Db ho)
    simp only[Bool.not_true,cond_false,Bool.true_and]
    rw[SY (by omega) (by omega),o5 (N:=N) (c:=c) (fun i x s ok next hi hs=>xD ho hN hi hs) ho c.2.2.1 0 c true (by omega) (Db ho)]
    refine(vp (out:=Li c (eO c c.2.2.1 0 c true).1) h (fun _=>Xz h ho hi hN) hN hl).trans ?_
    cases (eO c c.2.2.1 0 c true).2<;>rfl
end Go.Pv.R
namespace Go.Pv.R
set_option linter.unusedVariables false
set_option linter.unusedSimpArgs false
structure Small (c:aU):Prop where
 t10:c.1.length≤10
 tm:∀ x:az,x∈c.1→x.met.length≤20
 TP:c.2.1.length≤10
 js:∀ x:bu,x∈c.2.1→x.2.2.length≤99
 Wj:c.2.2.1.length≤10
 s10:c.2.2.2.1.length≤10
 b10:c.2.2.2.2.1.length≤10
 ajN:c.2.2.2.2.2.1.length≤200
theorem qv {c:aU} (hc:c9 c=true):Small c:=by
 obtain⟨l1,l2⟩:=qk hc
 unfold c9 at hc
 simp only[Bool.and_eq_true,Bool.or_eq_true,decide_eq_true_eq] at hc
 obtain⟨ht,hj,hm,_,_,hs,hb,_⟩:=hc
 unfold ko at hm
 simp only[Bool.and_eq_true,decide_eq_true_eq] at hm
 unfold aD at ht
 simp only[Bool.and_eq_true,decide_eq_true_eq] at ht
 obtain⟨t10,htp,_⟩:=ht
 unfold cX at hj
 simp only[Bool.and_eq_true,decide_eq_true_eq] at hj
 obtain⟨TP,hjp⟩:=hj
 rw[dS] at htp hjp
 have Wj:c.2.2.1.length≤10:=by
  rcases hs with hs |hs
  ·omega
  ·have hs:ek c.1 c.2.1 c.2.2.1 c.2.2.2.1=true:=hs.2
   unfold ek at hs
   simp only[Bool.and_eq_true,decide_eq_true_eq] at hs
   obtain⟨_,_,hs⟩:=hs
   rw[dS] at hs
   have sP:∀ i,i<c.2.2.1.length→eC c.2.1 (fu c i)≥0∧pc (c.2.2.2.1.take i) (fu c i)=false:=fun i hi=>by
    have:=hs i hi
    rw[Nat.zero_add] at this
    unfold zX at this
    simp only[Bool.and_eq_true,decide_eq_true_eq,Bool.not_eq_true'] at this
    exact⟨this.1,this.2.1⟩
   have hn:c.2.2.2.1.Nodup:=List.pairwise_iff_getElem.2 fun i j hi hj xz e=>by
    have h1:=(sP j (by omega)).2
    have h2:pc (c.2.2.2.1.take j) (fu c j)=true:=by
     rw[jC]
     unfold fu
     rw[au _ _ hj, ←e]
     exact List.mem_iff_getElem.2 ⟨i,by rw[List.length_take];omega,by rw[List.getElem_take]⟩
    rw[h1] at h2
    cases h2
   have hle:=qt c.2.2.2.1 (c.2.1.map fun x:bu=>x.1) hn fun x hx=>by
    obtain⟨i,hi,rfl⟩:=List.mem_iff_getElem.1 hx
    have h1:=(sP i (by omega)).1
    unfold fu at h1
    rw[au _ _ hi] at h1
    obtain⟨k,hk,e,h2,_⟩:=cp (p:=fun x:bu=>x.1==c.2.2.2.1[i]) (l:=c.2.1) (by unfold eC at h1;omega)
    exact List.mem_map.2 ⟨c.2.1[k],List.getElem_mem hk,by simpa using h2⟩
   rw[List.length_map] at hle
   omega
 refine⟨t10,fun x hx=> ?_,TP,fun x hx=> ?_,Wj,by omega,by omega,hm.1⟩
 ·obtain⟨i,hi,rfl⟩:=List.mem_iff_getElem.1 hx
  have:=htp i hi
  unfold j9 at this
  simp only[Bool.and_eq_true,decide_eq_true_eq] at this
  exact this.2.2.2.2.2.1
 ·obtain⟨i,hi,rfl⟩:=List.mem_iff_getElem.1 hx
  have:=hjp i hi
  unfold sT at this
  simp only[Bool.and_eq_true,decide_eq_true_eq] at this
  exact(HL this.2.2.2).2
theorem Small.okC {c:aU} {N:Nat} (h:Small c) (hN:300<N):bZ c N:=by
 have hx:=aW
 obtain⟨h1,h2,h3,h4,h5,h6,h7,h8⟩:=h
 exact⟨by omega,fun x hx=>by have:=h2 x hx;omega,by omega,by omega,fun x hx=>by have:=h4 x hx;omega,by omega,by omega,by omega,by omega,by omega,by omega,by omega,by omega,by omega,by omega,by omega,fun x hx=>by have:=h2 x hx;omega,by omega,fun x hx=>by have:=h4 x hx;omega⟩
structure Lj (c:aU) (N:Nat):Prop where
 ok:bZ c N
 ok':bZ c (N - 40)
 tb:c.1.length≤1048576
 tN:c.1.length+1<N
 jb:c.2.1.length≤1048576
 jN:c.2.1.length+1<N
 mN:c.2.2.2.2.2.1.length+1<N
 N2:200<N
theorem Small.evC {c:aU} {N:Nat} (h:Small c) (hN:400<N):Lj c N:=
 ⟨h.okC (by omega),h.okC (by omega),by have:=h.t10;omega,by have:=h.t10;omega,by have:=h.TP;omega,by have:=h.TP;omega,by have:=h.ajN;omega,by omega⟩
def YY (b:Bool) (c:aU) (r:aU×Bool):aU×Bool:=bif b then r else(c,false)
def Dc (c out:aU) (cZ kD:Int):aU×Bool:=(rB c out cZ kD,qj c out cZ kD)
def gO (c:aU) (e:br):aU×Bool:=
 bif e.1==1 then YY (decide (c.2.2.1.length=0)) c (Dc c (qm c e.2.1 e.2.2.1) 1 e.2.1)
 else bif e.1==2 then Dc c (Ac c e.2.1 e.2.2.1) 2 e.2.1
 else bif e.1==3 then kF c
 else bif e.1==4 then YY (xU c e.2.2.2 e.2.1 e.2.2.1) c (Dc c (ue c e.2.2.2 e.2.1 e.2.2.1) 4 (zZ c e.2.2.2 e.2.1 e.2.2.1).1)
 else bif e.1==5 then iT c
 else bif e.1==6 then YY (z7 c e.2.1) c (Dc c (z8 c e.2.1) 6 e.2.1)
 else(c,false)
theorem YZ {b:Bool} {c:aU} {r:aU×Bool} {k:aU→Bool→Option af}:(bif b then k r.1 r.2 else k c false)=k (YY b c r).1 (YY b c r).2:=by
 unfold YY
 cases b<;>rfl
end Go.Pv.R
namespace Go.Pv.R
set_option linter.unusedVariables false
set_option linter.unusedSimpArgs false
end Go.Pv.R
namespace Go.Pv.R
set_option linter.unusedVariables false
set_option linter.unusedSimpArgs false
end Go.Pv.R
namespace Go.Pv.R
set_option linter.unusedVariables false
set_option linter.unusedSimpArgs false
theorem acF {s:ByteArray} {i:Nat} (h:i<s.size) (h':i<s.data.toList.length):bt s (i:Int)=((s.data.toList[i]).toNat:Int):=by
 unfold bt
 rw[dif_pos (by simpa using h)]
 simp only[Int.toNat_natCast]
 congr 2
theorem XA {s:ByteArray} {i:Nat} {b:UInt8} {r:List UInt8} (h:s.data.toList.drop i=b::r):i<s.size∧bt s (i:Int)=(b.toNat:Int)∧s.data.toList.drop (i+1)=r:=by
 have cI:i<s.data.toList.length:=by have:=congrArg List.length h;simp at this;simp;omega
 have iD:i<s.size:=by rw[Lib.size_eq];exact cI
 have h0:=h
 rw[List.drop_eq_getElem_cons cI] at h
 injection h with h1 h2
 exact⟨iD,by rw[acF iD cI,h1],h2⟩
end Go.Pv.R
namespace Go.Pv.R
set_option linter.unusedVariables false
set_option linter.unusedSimpArgs false
end Go.Pv.R
namespace Go.Pv.R
set_option linter.unusedVariables false
set_option linter.unusedSimpArgs false
end Go.Pv.R
namespace Go.Pv.R
set_option linter.unusedVariables false
set_option linter.unusedSimpArgs false
theorem XB {a b:ByteArray}:(ByteArray.toList a==ByteArray.toList b)=true↔a=b:=by
 rw[beq_iff_eq,Lib.toList_data,Lib.toList_data]
 exact⟨fun h=>Xs h,fun h=>by rw[h]⟩
end Go.Pv.R
namespace Go.Pv.R
set_option linter.unusedVariables false
set_option linter.unusedSimpArgs false
end Go.Pv.R
namespace Go.Pv.R
set_option linter.unusedVariables false
set_option linter.unusedSimpArgs false
def kt {α:Type} (g:α→Int):List α→Int
 |[]=>0
 |x::r=>g x+kt g r
theorem nH {α:Type} (g:α→Int):∀ (a b:List α),kt g (a++b)=kt g a+kt g b
 |[],b=>by simp[kt]
 |x::a,b=>by simp only[List.cons_append,kt,nH g a b];omega
theorem Ax {α:Type} (g:α→Int) (y z:α):∀ (l:List α) (i:Nat),i<l.length→kt g (l.set i y)=kt g l - g (l.getD i z)+g y
 |[],i,h=>by simp at h
 |x::r,0,h=>by simp only[List.set_cons_zero,kt,List.getD_cons_zero];omega
 |x::r,i+1,h=>by
  simp only[List.set_cons_succ,kt,List.getD_cons_succ]
  rw[Ax g y z r i (by simpa using h)]
  omega
def PH (x:az):Int:=(x.met.length:Int)
structure Fair (t:List az):Prop where
 nd:∀ x:az,x∈t→x.met.Nodup
 df:∀ x y:az,x∈t→y∈t→y.1∈x.met→x.2.1≠y.2.1
 w:2*kt (fun x:az=>x.2.2.1) t=kt PH t
 f:2*kt (fun x:az=>x.2.2.2.2.1) t=kt PH t
structure acG (t:List az) (x:az):Prop where
 w:0≤x.2.2.1∧x.2.2.1≤x.met.length
 f:0≤x.2.2.2.2.1∧x.2.2.2.2.1≤x.met.length
 p:0≤x.2.2.2.1∧x.2.2.2.1≤100000
 m:x.met.length≤20
 s:∀ id,id∈x.met→id≠x.1∧∃ y:az,y∈t∧y.1=id∧x.1∈y.met
theorem xX {t:List az} (h:aD t=true) {x:az} (hx:x∈t):acG t x:=by
 have hm:=aW
 unfold aD at h
 simp only[Bool.and_eq_true,decide_eq_true_eq] at h
 obtain⟨_,h1,h2⟩:=h
 rw[dS] at h1 h2
 have m20:∀ y:az,y∈t→y.met.length≤20:=fun y hy=>by
  obtain⟨i,hi,rfl⟩:=List.mem_iff_getElem.1 hy
  have:=h1 i hi
  unfold j9 at this
  simp only[Bool.and_eq_true,decide_eq_true_eq] at this
  exact this.2.2.2.2.2.1
 obtain⟨i,hi,rfl⟩:=List.mem_iff_getElem.1 hx
 have a:=h1 i hi
 have b:=h2 i hi
 unfold j9 at a
 simp only[Bool.and_eq_true,decide_eq_true_eq,jg] at a
 rw[List.all_eq_true] at b
 refine⟨a.2.2.1,a.2.2.2.1,a.2.2.2.2.1,a.2.2.2.2.2.1,fun id hid=> ?_⟩
 have c:=b id hid
 unfold Tf at c
 simp only[Bool.and_eq_true,Bool.not_eq_true',decide_eq_false_iff_not,beq_eq_false_iff_ne,beq_iff_eq] at c
 obtain⟨c1,c2,c3⟩:=c
 refine⟨c2, ?_⟩
 obtain⟨k,hk,e,h3,_⟩:=cp (p:=fun x:az=>x.1==id) (l:=t) (by unfold aF at c1;omega)
 have e:aF t id=(k:Int):=e
 rw[e,Int.toNat_natCast,au _ _ hk] at c3
 rw[CY (by have:=m20 _ hx;omega),CY (by have:=m20 _ (List.getElem_mem hk);omega)] at c3
 refine⟨t[k],List.getElem_mem hk,by simpa using h3, ?_⟩
 have:0<List.count id (t[i].met):=List.count_pos_iff.2 hid
 exact List.count_pos_iff.1 (by omega)
theorem nI {t:List az} (h:aD t=true) {x y:az} (hx:x∈t) (hy:y∈t) (e:x.1=y.1):x=y:=by
 have hn:=jE h
 obtain⟨i,hi,rfl⟩:=List.mem_iff_getElem.1 hx
 obtain⟨j,hj,rfl⟩:=List.mem_iff_getElem.1 hy
 have:=(List.nodup_iff_pairwise_ne.1 hn)
 by_cases xz:i=j
 ·subst xz;rfl
 ·exfalso
  have hp:=List.pairwise_iff_getElem.1 hn
  unfold iq at hp
  rcases Nat.lt_or_gt_of_ne xz with cI |cI
  ·exact hp i j (by simpa using hi) (by simpa using hj) cI (by simpa using e)
  ·exact hp j i (by simpa using hj) (by simpa using hi) cI (by simpa using e.symm)
def Clean (t:List az) (a b:Int):Prop:=a≠b∧∀ x y:az,x∈t→y∈t→x.1=a→y.1=b→b∉x.met∧a∉y.met∧x.2.1≠y.2.1
theorem Nb {t:List az} {a b d p q:Int} (h:aD t=true) (ha:aF t a≥0) (hb:aF t b≥0) (uI:a≠b):∃ (i j:Nat) (hi:i<t.length) (hj:j<t.length),i≠j∧t[i].1=a∧t[j].1=b∧mZ t a b d p q=(t.set i (Aq t i b d p)).set j (qu t j a d q):=by
 obtain⟨i,hi,e1,h1,_⟩:=cp (p:=fun x:az=>x.1==a) (l:=t) (by unfold aF at ha;omega)
 obtain⟨j,hj,e2,h2,_⟩:=cp (p:=fun x:az=>x.1==b) (l:=t) (by unfold aF at hb;omega)
 have e1:aF t a=(i:Int):=e1
 have e2:aF t b=(j:Int):=e2
 refine⟨i,j,hi,hj,fun e=> ?_,by simpa using h1,by simpa using h2, ?_⟩
 ·subst e
  have h1:t[i].1=a:=by simpa using h1
  have h2:t[i].1=b:=by simpa using h2
  exact uI (h1.symm.trans h2)
 ·unfold mZ two
  rw[e1,e2,Int.toNat_natCast,Int.toNat_natCast]
theorem nJ {t:List az} {a b d p q:Int} (h:aD t=true) (ha:aF t a≥0) (hb:aF t b≥0) (uI:a≠b) {x:az} (hx:x∈mZ t a b d p q):
  ∃ y:az,y∈t∧x.1=y.1∧x.2.1=y.2.1∧((x.met=y.met∧x.1≠a∧x.1≠b)∨(y.1=a∧x.met=y.met++[b])∨(y.1=b∧x.met=y.met++[a])):=by
 obtain⟨i,j,hi,hj,xz,hia,hjb,e⟩:=Nb (d:=d) (p:=p) (q:=q) h ha hb uI
 rw[e] at hx
 obtain⟨k,hk,rfl⟩:=List.mem_iff_getElem.1 hx
 have fA:k<t.length:=by simpa using hk
 rw[List.getElem_set]
 by_cases DM:j=k
 ·subst DM
  rw[if_pos rfl]
  refine⟨t[j],List.getElem_mem hj, ?_, ?_,.inr (.inr ⟨hjb, ?_⟩)⟩<;>unfold qu<;>rw[au _ _ hj]
 ·rw[if_neg DM,List.getElem_set]
  by_cases hik:i=k
  ·subst hik
   rw[if_pos rfl]
   refine⟨t[i],List.getElem_mem hi, ?_, ?_,.inr (.inl ⟨hia, ?_⟩)⟩<;>unfold Aq<;>rw[au _ _ hi]
  ·rw[if_neg hik]
   refine⟨t[k],List.getElem_mem fA,rfl,rfl,.inl ⟨rfl,fun e=> ?_,fun e=> ?_⟩⟩
   ·have:=nI h (List.getElem_mem fA) (List.getElem_mem hi) (e.trans hia.symm)
    have hp:=List.pairwise_iff_getElem.1 (jE h)
    unfold iq at hp
    rcases Nat.lt_or_gt_of_ne hik with cI |cI
    ·exact hp i k (by simpa using hi) (by simpa using fA) cI (by simp[this])
    ·exact hp k i (by simpa using fA) (by simpa using hi) cI (by simp[this])
   ·have:=nI h (List.getElem_mem fA) (List.getElem_mem hj) (e.trans hjb.symm)
    have hp:=List.pairwise_iff_getElem.1 (jE h)
    unfold iq at hp
    rcases Nat.lt_or_gt_of_ne DM with cI |cI
    ·exact hp j k (by simpa using hj) (by simpa using fA) cI (by simp[this])
    ·exact hp k j (by simpa using fA) (by simpa using hj) cI (by simp[this])
theorem Ay {t:List az} {a b d p q:Int} {g:az→Int} {n:Int} (h:aD t=true) (ha:aF t a≥0) (hb:aF t b≥0) (uI:a≠b) (hg:∀ (i j:Nat),i<t.length→j<t.length→g (Aq t i b d p)+g (qu t j a d q)=g (t.getD i ab)+g (t.getD j ab)+n):kt g (mZ t a b d p q)=kt g t+n:=by
 obtain⟨i,j,hi,hj,xz,hia,hjb,e⟩:=Nb (d:=d) (p:=p) (q:=q) h ha hb uI
 have:=hg i j hi hj
 rw[e,Ax g _ ab _ _ (by simpa using hj),Ax g _ ab _ _ hi,HI xz]
 omega
theorem PI {t:List az} {a b d p q:Int} (h:aD t=true) (ha:aF t a≥0) (hb:aF t b≥0) (hd:d=1∨d=2) (hc:Clean t a b) (hF:Fair t):Fair (mZ t a b d p q):=by
 obtain⟨uI,hc⟩:=hc
 have TQ:∀ i,i<t.length→((t.getD i ab).met.length≤20)∧(0≤(t.getD i ab).2.2.1∧(t.getD i ab).2.2.1≤20)∧(0≤(t.getD i ab).2.2.2.2.1∧(t.getD i ab).2.2.2.2.1≤20):=fun i hi=>by
  have:=xX h (x:=t.getD i ab) (by rw[au _ _ hi];exact List.getElem_mem hi)
  have h1:=this.w;have h2:=this.f;have h3:=this.m
  omega
 refine⟨fun x hx=> ?_,fun x y hx hy BI=> ?_, ?_, ?_⟩
 ·obtain⟨u,hu,e1,e2,e3⟩:=nJ h ha hb uI hx
  obtain⟨z1,hz1,f1⟩:∃ z∈t,z.1=a:=⟨_,(gB ha).1,(gB ha).2⟩
  obtain⟨z2,hz2,f2⟩:∃ z∈t,z.1=b:=⟨_,(gB hb).1,(gB hb).2⟩
  have hn:=hF.nd u hu
  rcases e3 with⟨e3,_⟩ |⟨e3,e4⟩ |⟨e3,e4⟩
  ·rw[e3];exact hn
  ·rw[e4]
   have:=(hc u z2 hu hz2 e3 f2).1
   exact List.nodup_append.2 ⟨hn,by simp,fun c ON d hd e=>by simp at hd;subst hd;subst e;exact this ON⟩
  ·rw[e4]
   have:=(hc z1 u hz1 hu f1 e3).2.1
   exact List.nodup_append.2 ⟨hn,by simp,fun c ON d hd e=>by simp at hd;subst hd;subst e;exact this ON⟩
 ·obtain⟨u,hu,e1,e2,e3⟩:=nJ h ha hb uI hx
  obtain⟨v,hv,f1,f2,_⟩:=nJ h ha hb uI hy
  rw[e2,f2]
  rw[f1] at BI
  rcases e3 with⟨e3,_⟩ |⟨e3,e4⟩ |⟨e3,e4⟩
  ·exact hF.df u v hu hv (by rw[←e3];exact BI)
  ·rw[e4,List.mem_append,List.mem_singleton] at BI
   rcases BI with BI |BI
   ·exact hF.df u v hu hv BI
   ·exact(hc u v hu hv e3 BI).2.2
  ·rw[e4,List.mem_append,List.mem_singleton] at BI
   rcases BI with BI |BI
   ·exact hF.df u v hu hv BI
   ·exact fun e=>(hc v u hv hu BI e3).2.2 e.symm
 all_goals
  have hm:kt PH (mZ t a b d p q)=kt PH t+2:=Ay h ha hb uI fun i j hi hj=>by
   show(((t.getD i ab).2.2.2.2.2++[b]).length:Int)+(((t.getD j ab).2.2.2.2.2++[a]).length:Int)=((t.getD i ab).2.2.2.2.2.length:Int)+((t.getD j ab).2.2.2.2.2.length:Int)+2
   simp only[List.length_append,List.length_cons,List.length_nil]
   omega
  rw[hm]
 ·rw[Ay (g:=fun x:az=>x.2.2.1) (n:=1) h ha hb uI fun i j hi hj=>by
   have h1:=TQ i hi
   have h2:=TQ j hj
   show(bif d==1 then IntKind.wrap .i64 ((t.getD i ab).2.2.1+1) else(t.getD i ab).2.2.1)+(bif d==1 then(t.getD j ab).2.2.1 else IntKind.wrap .i64 ((t.getD j ab).2.2.1+1))=(t.getD i ab).2.2.1+(t.getD j ab).2.2.1+1
   rw[wrap64 (by omega) (by omega),wrap64 (by omega) (by omega)]
   cases d==1<;>simp<;>omega]
  have:=hF.w
  omega
 ·rw[Ay (g:=fun x:az=>x.2.2.2.2.1) (n:=1) h ha hb uI fun i j hi hj=>by
   have h1:=TQ i hi
   show IntKind.wrap .i64 ((t.getD i ab).2.2.2.2.1+1)+(t.getD j ab).2.2.2.2.1=(t.getD i ab).2.2.2.2.1+(t.getD j ab).2.2.2.2.1+1
   rw[wrap64 (by omega) (by omega)]
   omega]
  have:=hF.f
  omega
theorem Lk {t:List az} {a b d p q a' b':Int} (h:aD t=true) (ha:aF t a≥0) (hb:aF t b≥0) (uI:a≠b) (h1:a'≠a∧a'≠b) (h2:b'≠a∧b'≠b) (hc:Clean t a' b'):Clean (mZ t a b d p q) a' b':=by
 refine⟨hc.1,fun x y hx hy ex ey=> ?_⟩
 obtain⟨u,hu,e1,e2,e3⟩:=nJ h ha hb uI hx
 obtain⟨v,hv,f1,f2,f3⟩:=nJ h ha hb uI hy
 have:=hc.2 u v hu hv (e1.symm.trans ex) (f1.symm.trans ey)
 have e4:x.met=u.met:=by
  rcases e3 with e3 |e3 |e3
  ·exact e3.1
  ·exact absurd (ex.symm.trans (e1.trans e3.1)) h1.1
  ·exact absurd (ex.symm.trans (e1.trans e3.1)) h1.2
 have f4:y.met=v.met:=by
  rcases f3 with f3 |f3 |f3
  ·exact f3.1
  ·exact absurd (ey.symm.trans (f1.trans f3.1)) h2.1
  ·exact absurd (ey.symm.trans (f1.trans f3.1)) h2.2
 rw[e4,f4,e2,f2]
 exact this
theorem B4 {t:List az} {a b:Int} (h:de t a b=true):Clean t a b:=by
 obtain⟨hT,_,_,uI⟩:=fQ h
 unfold de at h
 simp only[Bool.and_eq_true,decide_eq_true_eq,Bool.not_eq_true',bne_iff_ne,ne_eq] at h
 obtain⟨_,ha,hb,_,l9,hm⟩:=h
 refine⟨uI,fun x y hx hy ex ey=> ?_⟩
 have fx:(t.getD (aF t a).toNat ab)=x:=nI hT (gB ha).1 hx ((gB ha).2.trans ex.symm)
 have fy:(t.getD (aF t b).toNat ab)=y:=nI hT (gB hb).1 hy ((gB hb).2.trans ey.symm)
 unfold ud ail at hm
 unfold CZ at l9
 rw[fx,fy] at l9
 rw[fx,decide_eq_true ha,Bool.true_and] at hm
 have h1:b∉x.met:=fun hc=>by
  have:=jC.2 hc
  rw[hm] at this
  cases this
 refine⟨h1,fun hc=> ?_,l9⟩
 obtain⟨_,z,hz,ez,hz2⟩:=(xX hT hy).s a hc
 have:z=x:=nI hT hz hx (ez.trans ex.symm)
 subst this
 rw[ey] at hz2
 exact h1 hz2
theorem PJ {t:List az} {r:List cN} (h:fP t r=true):(eN r).Nodup:=by
 unfold fP at h
 rw[Bool.and_eq_true,List.all_eq_true,List.all_eq_true] at h
 cases r with
 |nil=>simp[eN]
 |cons p r=>
  have hT:=(fQ (h.1 p (by simp))).1
  refine((Hz (jE hT) fun x hx=> ?_).1 fun x hx=> ?_).1
  ·unfold eN at hx
   obtain⟨q,hq,hx⟩:=List.mem_flatMap.1 hx
   obtain⟨_,h1,h2,_⟩:=fQ (h.1 q hq)
   simp at hx
   rcases hx with rfl |rfl
   ·exact h1
   ·exact h2
  ·obtain⟨y,hy,rfl⟩:=List.mem_map.1 hx
   have:=h.2 y hy
   simpa using this
theorem wm {c:aU}:∀ (r:List cN) (i:Nat) (s:aU) (ok:Bool),Fair s.1→(∀ p∈r,Clean s.1 p.1 p.2)→(eN r).Nodup→(eO c r i s ok).2=true→Fair (eO c r i s ok).1.1
 |[],i,s,ok,hF,_,_,_=>hF
 |x::r,i,s,ok,hF,hC,hN,ho=>by
  unfold eO at ho ⊢
  cases hb:HK c i x s with
  |false=>rw[hb,Bool.and_false,uo] at ho;cases ho
  |true=>
   rw[hb] at ho
   have Q':=hb
   unfold HK at Q'
   have hf:=sW Q'
   have hT:aD s.1=true:=by
    have:=Q'
    unfold o3 Eg at this
    simp only[Bool.and_eq_true] at this
    exact this.1.1
   have hx:=hC x (by simp)
   have e:(At c i x s).1=mZ s.1 x.1 x.2 (ofM (o4 c i)) (o4 c i).2.1 (o4 c i).2.2:=by
    show vA _ _ _ _ _ _=_
    unfold vA
    rw[Q']
    rfl
   have hN':x.1∉eN r∧x.2∉eN r∧(eN r).Nodup:=by
    have:eN (x::r)=[x.1,x.2]++eN r:=rfl
    rw[this] at hN
    have:=List.nodup_append.1 hN
    exact⟨fun h=>this.2.2 x.1 (by simp) x.1 h rfl,fun h=>this.2.2 x.2 (by simp) x.2 h rfl,this.2.1⟩
   refine wm r (i+1) _ _ ?_ (fun p hp=> ?_) hN'.2.2 ho
   ·rw[e]
    exact PI hT hf.1 hf.2 (C' _) hx hF
   ·rw[e]
    have h1:p.1∈eN r:=List.mem_flatMap.2 ⟨p,hp,by simp⟩
    have h2:p.2∈eN r:=List.mem_flatMap.2 ⟨p,hp,by simp⟩
    exact Lk hT hf.1 hf.2 hx.1 ⟨fun e=>hN'.1 (e▸h1),fun e=>hN'.2.1 (e▸h1)⟩ ⟨fun e=>hN'.1 (e▸h2),fun e=>hN'.2.1 (e▸h2)⟩ (hC p (by simp[hp]))
structure Good (c:aU):Prop where
 cl:c9 c=true
 fa:Fair c.1
 mi:(HA c.2.2.2.2.2.1:Int)=c.2.2.2.2.2.2+c.2.2.2.2.1.length - (bc c).length
structure acH (c:aU):Prop where
 t:aD c.1=true
 j:cX c.2.1=true
 m:ko c.2.2.2.2.2.1=true
 sl:c.2.2.2.1.length=c.2.2.1.length
 bl:c.2.2.2.2.1.length=c.2.2.1.length
 ro:c.2.2.1.length=0∨(fP c.1 c.2.2.1=true∧ek c.1 c.2.1 c.2.2.1 c.2.2.2.1=true)
 ba:allI (oA c) c.2.2.2.2.1 0=true
 pl:0≤c.2.2.2.2.2.2∧c.2.2.2.2.2.2≤1000
 tw:ov c.1=c.2.2.2.2.2.2
theorem qT {c:aU} (h:c9 c=true):acH c:=by
 unfold c9 at h
 simp only[Bool.and_eq_true,Bool.or_eq_true,decide_eq_true_eq,jg,beq_iff_eq] at h
 exact⟨h.1,h.2.1,h.2.2.1,h.2.2.2.1,h.2.2.2.2.1,h.2.2.2.2.2.1,h.2.2.2.2.2.2.1,h.2.2.2.2.2.2.2.1,h.2.2.2.2.2.2.2.2⟩
theorem PK (l:List oD) (cZ kD:Int):HA (l++[C2 l cZ kD])=HA l+(bif cZ==4 then 1 else 0):=by
 unfold HA
 rw[List.filter_append,List.length_append]
 congr 1
 show(List.filter _ [((l.length:Int)+1,(cZ,(kD,_)))]).length=_
 simp only[List.filter_cons,List.filter_nil]
 cases cZ==4<;>rfl
theorem iU {c out:aU} {cZ kD:Int} (h:Good c) (ho:c9 (qR out (c.2.2.2.2.2.1++[C2 c.2.2.2.2.2.1 cZ kD]))=true→Fair out.1∧c.2.2.2.2.2.2+c.2.2.2.2.1.length - (bc c).length+(bif cZ==4 then 1 else 0)=out.2.2.2.2.2.2+out.2.2.2.2.1.length - (bc out).length):Good (rB c out cZ kD):=by
 unfold rB
 cases hd:qj c out cZ kD with
 |false=>exact h
 |true=>
  rw[cond_true]
  unfold qj at hd
  simp only[Bool.and_eq_true] at hd
  obtain⟨h1,_,h2⟩:=hd
  unfold iS at*
  rw[h1,cond_true] at*
  obtain⟨h3,h4⟩:=ho h2
  refine⟨h2,h3, ?_⟩
  show(HA (c.2.2.2.2.2.1++[C2 c.2.2.2.2.2.1 cZ kD]):Int)=out.2.2.2.2.2.2+out.2.2.2.2.1.length - (bc out).length
  rw[PK, ←h4, ←h.mi]
  cases cZ==4<;>simp
theorem PL {c:aU} {id dC:Int} (h:Good c) (ht:aD (qm c id dC).1=true):Fair (qm c id dC).1:=by
 have q9:=Tu ht
 have hf:=h.fa
 have e:(qm c id dC).1=c.1.take (mX c.1 id)++[Tq id dC]++c.1.drop (mX c.1 id):=rfl
 have hs:∀ g:az→Int,g (Tq id dC)=0→kt g (qm c id dC).1=kt g c.1:=fun g hg=>by
  have h1:=nH g (c.1.take (mX c.1 id)) (c.1.drop (mX c.1 id))
  rw[List.take_append_drop] at h1
  rw[e,nH,nH,h1]
  simp only[kt,hg]
  omega
 have old:∀ x:az,x∈c.1→id∉x.met:=fun x hx hc=>by
  obtain⟨_,y,hy,ey,_⟩:=(xX (qT h.cl).t hx).s id hc
  obtain⟨i,hi,rfl⟩:=List.mem_iff_getElem.1 hy
  have:=(vl (p:=fun x:az=>x.1==id) q9).2 i hi
  simp[ey] at this
 refine⟨fun x hx=> ?_,fun x y hx hy BI=> ?_, ?_, ?_⟩
 ·rw[e] at hx
  rcases Aa hx with hx |rfl
  ·exact hf.nd x hx
  ·exact List.nodup_nil
 ·rw[e] at hx hy
  rcases Aa hx with hx |rfl
  ·rcases Aa hy with hy |rfl
   ·exact hf.df x y hx hy BI
   ·exact absurd BI (old x hx)
  ·cases BI
 ·rw[hs _ rfl,hs _ rfl];exact hf.w
 ·rw[hs _ rfl,hs _ rfl];exact hf.f
theorem Ll {c:aU} {id:Int} (h:Good c) (hm:z7 c id=true):Fair (z8 c id).1:=by
 have hf:=h.fa
 unfold z7 at hm
 simp only[Bool.and_eq_true,decide_eq_true_eq] at hm
 obtain⟨h1,_,h3⟩:=hm
 have hk:=(jD (l:=c.1) (id:=id) h1).2
 have e:(z8 c id).1=c.1.take (aF c.1 id).toNat++c.1.drop ((aF c.1 id).toNat+1):=rfl
 have lU:∀ x:az,x∈(z8 c id).1→x∈c.1:=fun x hx=>by
  rw[e,List.mem_append] at hx
  rcases hx with hx |hx
  ·exact List.mem_of_mem_take hx
  ·exact List.mem_of_mem_drop hx
 have ht:=xX (qT h.cl).t (x:=c.1.getD (aF c.1 id).toNat ab) (by rw[au _ _ hk];exact List.getElem_mem hk)
 have h3':(az.met (c.1.getD (aF c.1 id).toNat ab)).length=0:=h3
 have hs:∀ g:az→Int,g (c.1.getD (aF c.1 id).toNat ab)=0→kt g (z8 c id).1=kt g c.1:=fun g hg=>by
  have h1:=nH g (c.1.take (aF c.1 id).toNat) (c.1.drop (aF c.1 id).toNat)
  rw[List.take_append_drop,List.drop_eq_getElem_cons hk] at h1
  rw[au _ _ hk] at hg
  rw[e,nH,h1]
  simp only[kt,hg]
  omega
 have e1:PH (c.1.getD (aF c.1 id).toNat ab)=0:=by unfold PH;omega
 have w1:=ht.w
 have f1:=ht.f
 refine⟨fun x hx=>hf.nd x (lU x hx),fun x y hx hy=>hf.df x y (lU x hx) (lU y hy), ?_, ?_⟩
 ·rw[hs _ e1,hs _ (by omega)];exact hf.w
 ·rw[hs _ e1,hs _ (by omega)];exact hf.f
theorem rH {α β:Type} {c:Nat→α→Bool} {f:Nat→α→β} {p:α→Bool} (hc:∀ i x,c i x=p x):∀ (l:List α) (i:Nat),(cb c f l i).length=(l.filter p).length
 |[],_=>rfl
 |x::r,i=>by
  simp only[cb,hc,List.filter_cons]
  cases p x<;>simp[rH hc r]
theorem qw (c:aU):(bc c).length=(c.2.2.2.2.1.filter ir).length:=rH (p:=ir) (fun _ _=>rfl) _ _
theorem Az {α:Type} {p:α→Bool} {y z:α}:∀ (l:List α) (i:Nat),i<l.length→p (l.getD i z)=true→p y=false→((l.set i y).filter p).length+1=(l.filter p).length
 |[],i,h,_,_=>by simp at h
 |x::r,0,h,h1,h2=>by
  simp only[List.getD_cons_zero] at h1
  simp only[List.set_cons_zero,List.filter_cons,h1,h2]
  simp
 |x::r,i+1,h,h1,h2=>by
  simp only[List.getD_cons_succ] at h1
  have:=Az (y:=y) r i (by simpa using h) h1 h2
  simp only[List.set_cons_succ,List.filter_cons]
  cases p x<;>simp<;>omega
theorem HM {b:gn} (h:dL b=true):ir b=false:=by
 unfold dL at h
 simp only[Bool.and_eq_true,jg] at h
 unfold ir
 rw[decide_eq_false (show ¬(b.1:Int)=0 by omega)]
 rfl
theorem Lm {c:aU} (h:Good c) (hm:nG c=true) (hk:(eO c c.2.2.1 0 c true).2=true):Fair (eO c c.2.2.1 0 c true).1.1:=by
 unfold nG at hm
 simp only[Bool.and_eq_true,decide_eq_true_eq] at hm
 obtain⟨hc,hr,_⟩:=hm
 have hR:=((qT hc).ro.resolve_left hr).1
 have fq:=hR
 unfold fP at fq
 rw[Bool.and_eq_true,List.all_eq_true] at fq
 exact wm c.2.2.1 0 c true h.fa (fun p hp=>B4 (fq.1 p hp)) (PJ hR) hk
theorem AA {b:Bool} {c:aU} {r:aU×Bool} (h:Good c) (hr:b=true→Good r.1):Good (YY b c r).1:=by
 unfold YY
 cases b with
 |false=>exact h
 |true=>exact hr rfl
theorem qx {c:aU} (h:Good c) (e:br):Good (gO c e).1:=by
 have hI:=qT h.cl
 unfold gO
 cases e.1==1
 rotate_left
 ·exact AA h fun _=>iU h fun ho=>⟨PL h (qT ho).t,by show _+_ - _+0=c.2.2.2.2.2.2+c.2.2.2.2.1.length - (bc c).length;omega⟩
 cases e.1==2
 rotate_left
 ·exact iU h fun ho=>⟨h.fa,by show _+_ - _+0=c.2.2.2.2.2.2+c.2.2.2.2.1.length - (bc c).length;omega⟩
 cases e.1==3
 rotate_left
 ·show Good (kF c).1
  unfold kF
  cases qs c.1 with
  |none=>exact h
  |some ps=>
   simp only[]
   cases mY c.1 c.2.1 ps with
   |none=>exact h
   |some ss=>
    cases hp:xW c with
    |false=>exact h
    |true=>
     refine iU h fun ho=>⟨h.fa, ?_⟩
     unfold xW at hp
     simp only[Bool.and_eq_true,decide_eq_true_eq] at hp
     have hb:=hI.bl
     have hw:=vn c
     have xw:(bc (Ap c ps ss)).length=ps.length:=by
      rw[qw]
      show((List.replicate ps.length ((0:Int),((0:Int),(0:Int)))).filter ir).length=_
      rw[List.filter_eq_self.2 (fun x hx=>by rw[List.eq_of_mem_replicate hx];rfl),List.length_replicate]
     have hl:(Ap c ps ss).2.2.2.2.1.length=ps.length:=List.length_replicate
     have JP:(Ap c ps ss).2.2.2.2.2.2=c.2.2.2.2.2.2:=rfl
     rw[xw,hl,JP]
     show _+_ - _+0=_
     omega
 cases e.1==4
 rotate_left
 ·refine AA h fun hm=>iU h fun ho=>⟨h.fa, ?_⟩
  unfold xU at hm
  simp only[Bool.and_eq_true,decide_eq_true_eq] at hm
  obtain⟨_,⟨m1,m2⟩,m3,m4⟩:=hm
  have hb:=hI.bl
  have hf:=Az (p:=ir) (y:=zZ c e.2.2.2 e.2.1 e.2.2.1) (z:=aT) c.2.2.2.2.1 e.2.2.2.toNat (by omega) m3 (HM m4)
  have hw:(bc (ue c e.2.2.2 e.2.1 e.2.2.1)).length+1=(bc c).length:=by rw[qw,qw];exact hf
  have hl:(ue c e.2.2.2 e.2.1 e.2.2.1).2.2.2.2.1.length=c.2.2.2.2.1.length:=List.length_set
  have JP:(ue c e.2.2.2 e.2.1 e.2.2.1).2.2.2.2.2.2=c.2.2.2.2.2.2:=rfl
  rw[hl,JP]
  show _+_ - _+1=_
  omega
 cases e.1==5
 rotate_left
 ·show Good (iT c).1
  unfold iT
  cases hm:nG c with
  |false=>exact h
  |true=>
   cases hk:(eO c c.2.2.1 0 c true).2 with
   |false=>exact h
   |true=>
    refine iU h fun ho=>⟨Lm h hm hk, ?_⟩
    unfold nG at hm
    simp only[Bool.and_eq_true,decide_eq_true_eq] at hm
    obtain⟨_,_,hw⟩:=hm
    have hb:=hI.bl
    have hp:=hI.pl
    have hN:=h.mi
    have Wj:=(qv h.cl).Wj
    have h1:(Li c (eO c c.2.2.1 0 c true).1).2.2.2.2.2.2=c.2.2.2.2.2.2+(List.length c.2.2.1:Int):=by
     show IntKind.wrap .i64 (c.2.2.2.2.2.2+(List.length c.2.2.1:Int))=_
     exact wrap64 (by omega) (by omega)
    have h2:(Li c (eO c c.2.2.1 0 c true).1).2.2.2.2.1.length=0:=rfl
    have h3:(bc (Li c (eO c c.2.2.1 0 c true).1)).length=0:=rfl
    rw[h1,h2,h3]
    show _+_ - _+0=_
    omega
 cases e.1==6
 rotate_left
 ·exact AA h fun hm=>iU h fun ho=>⟨Ll h hm,by show _+_ - _+0=c.2.2.2.2.2.2+c.2.2.2.2.1.length - (bc c).length;omega⟩
 ·exact h
end Go.Pv.R
namespace Go.Pv.R
set_option linter.unusedVariables false
set_option linter.unusedSimpArgs false
abbrev qU:=ak
def dy (c:qU):Prop:=0≤c.2.1∧c.1.length≤1048576
def nK {α:Type} (F:qU→(α→qU→Option af)→Option af) (P:α→Prop):Prop:=∀ c:qU,dy c→∃ v,∃ c':qU,dy c'∧P v∧∀ kf,F c kf=kf v c'
theorem TR (x:BitVec (IntKind.bits .i64)):0≤IntKind.wrap .i64 (BitVec.toNat (x&&&BitVec.ofInt (IntKind.bits .i64) (255:Int)))∧IntKind.wrap .i64 (BitVec.toNat (x&&&BitVec.ofInt (IntKind.bits .i64) (255:Int)))≤255:=by
 have h:BitVec.toNat (x&&&BitVec.ofInt (IntKind.bits .i64) (255:Int))≤255:=by
  rw[BitVec.toNat_and]
  refine Nat.le_trans Nat.and_le_right ?_
  decide
 rw[wrap64 (by omega) (by omega)]
 omega
theorem Eh {N:Nat}:nK (S44 N) fun v=>0≤v∧v≤255:=fun c hc=>by
 obtain⟨hc,hl⟩:=hc
 unfold S44 share
 rw[decide_eq_true (show(0:Int)≤33 by omega),decide_eq_true (show(0:Int)≤47 by omega)]
 simp only[cond_true]
 by_cases hi:c.2.1<(List.length c.1:Int)
 ·have jc:bw c.2.1 (List.length c.1)=true:=by
   have:=aM (i:=c.2.1.toNat) (m:=c.1.length) (by omega)
   rwa [Int.toNat_of_nonneg hc] at this
  rw[decide_eq_true hi,jc]
  simp only[cond_true]
  refine⟨_,(c.1,(IntKind.wrap .i64 (c.2.1+1),_)),⟨?_,hl⟩,TR _,fun kf=>rfl⟩
  show 0≤IntKind.wrap .i64 (c.2.1+1)
  rw[wrap64 (by omega) (by omega)]
  omega
 ·rw[decide_eq_false hi]
  simp only[cond_false]
  exact⟨_,(c.1,(c.2.1,IntKind.wrap .i64 (IntKind.wrap .i64 (c.2.2*(6364136223846793005:Int))+(1442695040888963407:Int)))),⟨hc,hl⟩,TR _,fun kf=>rfl⟩
theorem XC {r n:Int} (hr:0≤r) (hn:0<n):0≤Int.tmod r n∧Int.tmod r n<n:=by
 rw[Int.tmod_eq_emod_of_nonneg hr]
 exact⟨Int.emod_nonneg _ (by omega),Int.emod_lt_of_pos _ hn⟩
theorem na {N:Nat} {n:Int} (h0:0<n) (h1:n≤256):nK (fun c kf=>mg N c n kf) fun v=>0≤v∧v<n:=fun c hc=>by
 obtain⟨v,c',h2,h3,h4⟩:=Eh (N:=N) c hc
 refine⟨Int.tmod v n,c',h2,XC h3.1 h0,fun kf=> ?_⟩
 show mg N c n kf=_
 unfold mg
 rw[decide_eq_false (by omega),decide_eq_true h1]
 simp only[cond_true,cond_false]
 rw[h4,decide_eq_false (by omega)]
 rfl
theorem Ei {N:Nat} {n:Int} (h0:0<n) (h1:n≤256):nK (fun c kf=>YL N c n kf) fun _=>True:=fun c hc=>by
 obtain⟨v,c',h2,h3,h4⟩:=na (N:=N) h0 h1 c hc
 exact⟨_,c',h2,trivial,fun kf=>h4 _⟩
theorem HN {N:Nat} {l:List Int} (h0:0<l.length) (h1:l.length≤256):nK (fun c kf=>JU N c l kf) fun v=>v∈l:=fun c hc=>by
 obtain⟨v,c',h2,h3,h4⟩:=na (N:=N) (n:=(l.length:Int)) (by omega) (by omega) c hc
 have h4:∀ kf,mg N c (l.length:Int) kf=kf v c':=h4
 obtain⟨k,rfl⟩:∃ k:Nat,v=(k:Int):=⟨v.toNat,by omega⟩
 have hk:k<l.length:=by omega
 refine⟨l.getD k 0,c',h2,by rw[au _ _ hk];exact List.getElem_mem hk,fun kf=> ?_⟩
 show JU N c l kf=_
 unfold JU
 rw[h4,aM hk,Int.toNat_natCast]
 rfl
theorem uq {N:Nat} {a:List Int} (ha:a.length≤1048576) (hN:4000<N):∃ c:qU,dy c∧∀ kf,S17 N a kf=kf c:=by
 have key:∀ (d i n:Nat) (h:Int),i+d=min a.length 4000→d<n→∃ h',∀ k:Int→Option af,vc a n k h (i:Int)=k h':=by
  intro d
  induction d with
  |zero=>
   intro i n h hi hn
   obtain⟨n,rfl⟩:∃ m,n=m+1:=⟨n - 1,by omega⟩
   refine⟨h,fun k=> ?_⟩
   unfold vc
   by_cases h1:i<a.length
   ·rw[decide_eq_true (show(i:Int)<(List.length a:Int) by omega),decide_eq_false (show ¬(i:Int)<4000 by omega)]
    rfl
   ·rw[decide_eq_false (show ¬(i:Int)<(List.length a:Int) by omega)]
    rfl
  |succ d ih=>
   intro i n h hi hn
   obtain⟨n,rfl⟩:∃ m,n=m+1:=⟨n - 1,by omega⟩
   obtain⟨h',hh⟩:=ih (i+1) n (IntKind.wrap .i64 (BitVec.toNat (BitVec.ofInt (IntKind.bits .i64) (IntKind.wrap .i64 ((IntKind.wrap .i64 ((IntKind.wrap .i64 (h*(137:Int)))+(IntKind.wrap .i64 (List.getD a (Int.toNat (i:Int)) (0:Int)))))+(11:Int)))&&&BitVec.ofInt (IntKind.bits .i64) (1073741823:Int)))) (by omega) (by omega)
   refine⟨h',fun k=> ?_⟩
   unfold vc
   rw[decide_eq_true (show(i:Int)<(List.length a:Int) by omega),decide_eq_true (show(i:Int)<4000 by omega),aM (by omega)]
   simp only[cond_true]
   rw[wrap64 (n:=(i:Int)+1) (by omega) (by omega)]
   exact hh k
 obtain⟨h',hh⟩:=key (min a.length 4000) 0 N (IntKind.wrap .i64 ((193017:Int)+(List.length a:Int))) (by omega) (by omega)
 exact⟨(a,((0:Int),h')),⟨Int.le_refl 0,ha⟩,fun kf=>hh _⟩
def TS:aU:=([],([],([],([],([],([],0))))))
theorem PM:Good TS:=by
 refine⟨by decide,⟨fun x hx=>(by cases hx),fun x y hx=>(by cases hx),rfl,rfl⟩,rfl⟩
end Go.Pv.R
namespace Go.Pv.R
set_option linter.unusedVariables false
set_option linter.unusedSimpArgs false
end Go.Pv.R
namespace Go.Pv.R
set_option linter.unusedVariables false
set_option linter.unusedSimpArgs false
end Go.Pv.R
namespace Go.Pv.R
set_option linter.unusedVariables false
set_option linter.unusedSimpArgs false
theorem below {N:Nat} {n:Int} {c:qU} (h0:0<n) (h1:n≤256) (hc:dy c):∃ v,∃ c':qU,dy c'∧(0≤v∧v<n)∧∀ kf,mg N c n kf=kf v c':=na (N:=N) h0 h1 c hc
theorem oneOf {N:Nat} {l:List Int} {c:qU} (h0:0<l.length) (h1:l.length≤256) (hc:dy c):∃ v,∃ c':qU,dy c'∧v∈l∧∀ kf,JU N c l kf=kf v c':=HN (N:=N) h0 h1 c hc
theorem once {N:Nat} {n:Int} {c:qU} (h0:0<n) (h1:n≤256) (hc:dy c):∃ v,∃ c':qU,dy c'∧∀ kf,YL N c n kf=kf v c':=by
 obtain⟨v,c',h2,_,h4⟩:=Ei (N:=N) h0 h1 c hc
 exact⟨v,c',h2,h4⟩
def mK (M:Nat) (l:List az):Prop:=∀ x:az,x∈l→x.met.length≤M∧x.2.2.2.1≤1000000∧ -1000000≤x.2.2.2.1∧ -1000000≤x.1∧x.1≤1000000∧ -1000000≤x.2.2.1∧x.2.2.1≤1000000
theorem rI {N:Nat}:∀ (d:Nat) (i n:Nat) (c:qU) (l:List az),dy c→i+d=7→1≤i→l.length+1=i→d<n→mK 0 l→∃ r:List az,∃ c':qU,dy c'∧(2≤r.length∧r.length≤6∧mK 0 r)∧∀ kf,sx N n kf c l (i:Int)=kf c' r
 |0,i,n,c,l,hc,hi,h1,hl,hn,hm=>by
  obtain⟨n,rfl⟩:∃ j,n=j+1:=⟨n - 1,by omega⟩
  obtain⟨v,c1,iu,hv,e1⟩:=below (N:=N) (n:=5) (by omega) (by omega) hc
  refine⟨l,c1,iu,⟨by omega,by omega,hm⟩,fun kf=> ?_⟩
  unfold sx
  rw[e1,wrap64 (by omega) (by omega),decide_eq_false (by omega)]
  rfl
 |d+1,i,n,c,l,hc,hi,h1,hl,hn,hm=>by
  obtain⟨n,rfl⟩:∃ j,n=j+1:=⟨n - 1,by omega⟩
  obtain⟨v,c1,iu,hv,e1⟩:=below (N:=N) (n:=5) (by omega) (by omega) hc
  by_cases hg:(i:Int)≤2+v
  ·obtain⟨v2,c2,gp,Wc,e2⟩:=below (N:=N) (n:=3) (by omega) (by omega) iu
   obtain⟨r,c3,nL,hr,e3⟩:=rI d (i+1) n c2 (l++[((IntKind.wrap .i64 ((2:Int)*(i:Int))),((IntKind.wrap .i64 ((1:Int)+v2)),((0:Int),((0:Int),((0:Int),([]:(List Int)))))))]) gp (by omega) (by omega) (by simp;omega) (by omega) (fun x hx=>by
    rcases List.mem_append.1 hx with hx |hx
    ·exact hm x hx
    ·have hw:IntKind.wrap .i64 ((2:Int)*(i:Int))=2*(i:Int):=wrap64 (by omega) (by omega)
     rw[List.mem_singleton.1 hx]
     exact⟨Nat.le_refl 0,by show(0:Int)≤1000000;omega,by show(-1000000:Int)≤0;omega,by show -1000000≤IntKind.wrap .i64 ((2:Int)*(i:Int));omega,by show IntKind.wrap .i64 ((2:Int)*(i:Int))≤1000000;omega,by show(-1000000:Int)≤0;omega,by show(0:Int)≤1000000;omega⟩)
   refine⟨r,c3,nL,hr,fun kf=> ?_⟩
   unfold sx
   rw[e1,wrap64 (n:=2+v) (by omega) (by omega),decide_eq_true hg,cond_true,e2,decide_eq_true (by simp;omega),cond_true,wrap64 (n:=(i:Int)+1) (by omega) (by omega)]
   exact e3 kf
  ·refine⟨l,c1,iu,⟨by omega,by omega,hm⟩,fun kf=> ?_⟩
   unfold sx
   rw[e1,wrap64 (by omega) (by omega),decide_eq_false hg]
   rfl
theorem Ln {M:Nat} {t:List az} {a b d p q:Int} (h:mK M t):mK (M+1) (vA t a b d p q):=fun x hx=>by
 refine⟨HJ (fun y hy=>(h y hy).1) x hx, ?_⟩
 unfold vA at hx
 cases hb:o3 t a b d p q with
 |false=>rw[hb] at hx;exact(h x hx).2
 |true=>
  rw[hb] at hx
  unfold o3 at hb
  simp only[Bool.and_eq_true] at hb
  have ha:=hb.2
  unfold aD at ha
  simp only[Bool.and_eq_true] at ha
  have h2:=ha.2.1
  rw[dS] at h2
  obtain⟨i,hi,rfl⟩:=List.mem_iff_getElem.1 hx
  have:=h2 i hi
  unfold j9 at this
  simp only[Bool.and_eq_true,decide_eq_true_eq,jg] at this
  show((mZ t a b d p q)[i]).2.2.2.1≤1000000∧ -1000000≤((mZ t a b d p q)[i]).2.2.2.1∧ -1000000≤((mZ t a b d p q)[i]).1∧((mZ t a b d p q)[i]).1≤1000000∧ -1000000≤((mZ t a b d p q)[i]).2.2.1∧((mZ t a b d p q)[i]).2.2.1≤1000000
  omega
theorem rJ {N:Nat} (hN:200<N):∀ (k n M:Nat) (c:qU) (l:List az),dy c→k<n→l.length≤6→mK M l→M+k≤20→∃ r:List az,∃ c':qU,dy c'∧(r.length=l.length∧mK (M+k) r)∧∀ kf,vd N n kf c l (k:Int)=kf c' r
 |0,n,M,c,l,hc,hn,hl,hm,hM=>by
  obtain⟨n,rfl⟩:∃ j,n=j+1:=⟨n - 1,by omega⟩
  refine⟨l,c,hc,⟨rfl,hm⟩,fun kf=> ?_⟩
  unfold vd
  rw[decide_eq_false (by omega)]
  rfl
 |k+1,n,M,c,l,hc,hn,hl,hm,hM=>by
  obtain⟨n,rfl⟩:∃ j,n=j+1:=⟨n - 1,by omega⟩
  obtain⟨a,c1,iu,_,e1⟩:=below (N:=N) (n:=6) (by omega) (by omega) hc
  obtain⟨b,c2,gp,_,e2⟩:=below (N:=N) (n:=6) (by omega) (by omega) iu
  obtain⟨d,c3,nL,_,e3⟩:=below (N:=N) (n:=2) (by omega) (by omega) gp
  obtain⟨p,c4,pd,_,e4⟩:=below (N:=N) (n:=20) (by omega) (by omega) nL
  obtain⟨q,c5,TT,_,e5⟩:=below (N:=N) (n:=20) (by omega) (by omega) pd
  have ha:∀ a b d p q kf,Yw N l a b d p q kf=kf (vA l a b d p q) (o3 l a b d p q):=fun a b d p q kf=>TL (by omega) (fun x hx=>by have:=hm x hx;omega) (by omega)
  obtain⟨r,c6,hc6,hr,e6⟩:=rJ hN k n (M+1) c5 (vA l (IntKind.wrap .i64 ((2:Int)*(IntKind.wrap .i64 ((1:Int)+a)))) (IntKind.wrap .i64 ((2:Int)*(IntKind.wrap .i64 ((1:Int)+b)))) (IntKind.wrap .i64 ((1:Int)+d)) (IntKind.wrap .i64 ((60:Int)+p)) (IntKind.wrap .i64 ((60:Int)+q))) TT (by omega) (by rw[As];exact hl) (Ln hm) (by omega)
  refine⟨r,c6,hc6,⟨by rw[hr.1,As],by rw[show M+(k+1)=M+1+k by omega];exact hr.2⟩,fun kf=> ?_⟩
  unfold vd
  rw[decide_eq_true (by omega),cond_true]
  simp only[e1,e2,e3,e4,e5,ha]
  rw[wrap64 (n:=((k+1:Nat):Int) - 1) (by omega) (by omega),show(((k+1:Nat):Int) - 1)=(k:Int) by omega]
  exact e6 kf
theorem rK {N:Nat} (hN:200<N):nK (S39 N) fun l=>2≤l.length∧l.length≤6∧mK 6 l:=fun c hc=>by
 obtain⟨l,c1,iu,⟨h1,h2,h3⟩,e1⟩:=rI (N:=N) 6 1 N c [] hc rfl (by omega) rfl (by omega) (fun x hx=>by cases hx)
 obtain⟨v,c2,gp,hv,e2⟩:=below (N:=N) (n:=7) (by omega) (by omega) iu
 obtain⟨k,rfl⟩:∃ k:Nat,v=(k:Int):=⟨v.toNat,by omega⟩
 obtain⟨r,c3,nL,hr,e3⟩:=rJ (N:=N) hN k N 0 c2 l gp (by omega) h2 h3 (by omega)
 refine⟨r,c3,nL,⟨by omega,by omega,fun x hx=>by have:=hr.2 x hx;omega⟩,fun kf=> ?_⟩
 unfold S39
 refine(e1 _).trans ?_
 rw[e2]
 exact e3 _
theorem ur {M:Nat} {l:List az} {i:Nat} {y:az} (h:mK M l) (hy:y.met.length≤M) (hp:y.2.2.2.1≤1000000∧ -1000000≤y.2.2.2.1∧ -1000000≤y.1∧y.1≤1000000∧ -1000000≤y.2.2.1∧y.2.2.1≤1000000):mK M (l.set i y):=fun x hx=>by
 rcases List.mem_or_eq_of_mem_set hx with hx |rfl
 ·exact h x hx
 ·exact⟨hy,hp⟩
theorem uu {N:Nat} (hN:200<N):nK (S24 N) fun l=>2≤l.length∧l.length≤6∧mK 7 l:=fun c hc=>by
 obtain⟨l,c1,iu,⟨h1,h2,h3⟩,e1⟩:=rK hN c hc
 obtain⟨i,c2,gp,hi,e2⟩:=below (N:=N) (n:=(l.length:Int)) (by omega) (by omega) iu
 obtain⟨k,rfl⟩:∃ k:Nat,i=(k:Int):=⟨i.toNat,by omega⟩
 have hk:k<l.length:=by omega
 obtain⟨w,c3,nL,hw,e3⟩:=below (N:=N) (n:=14) (by omega) (by omega) gp
 have h4:mK 7 l:=fun x hx=>by have:=h3 x hx;omega
 have hgb:=h3 (l.getD k ab) (by rw[au _ _ hk];exact List.getElem_mem hk)
 have hgm:(l.getD k ab).2.2.2.2.2.length≤6:=hgb.1
 have xE:=hgb.2
 have hlen:∀ y:az,2≤(l.set k y).length∧(l.set k y).length≤6:=fun y=>by rw[List.length_set];omega
 unfold S24
 simp only[e1,e2,e3,aM hk,Int.toNat_natCast,cond_true]
 cases w==0
 rotate_left
 ·obtain⟨v,c4,pd,hv,e4⟩:=oneOf (N:=N) (l:=[(0:Int),(2:Int),(99:Int),(100:Int)]) (by simp) (by simp) nL
  refine⟨_,c4,pd, ?_,fun kf=>by simp only[cond_true,e4];rfl⟩
  exact⟨(hlen _).1,(hlen _).2,ur h4 (by show(l.getD k ab).2.2.2.2.2.length≤7;omega) (by simp at hv;exact⟨by first |exact xE.1 |(dsimp only;omega),by first |exact xE.2.1 |(dsimp only;omega),by first |exact xE.2.2.1 |(dsimp only;omega),by first |exact xE.2.2.2.1 |(dsimp only;omega),by first |exact xE.2.2.2.2.1 |(dsimp only;omega),by first |exact xE.2.2.2.2.2 |(dsimp only;omega)⟩)⟩
 cases w==1
 rotate_left
 ·obtain⟨v,c4,pd,hv,e4⟩:=oneOf (N:=N) (l:=[(-1:Int),(9:Int)]) (by simp) (by simp) nL
  refine⟨_,c4,pd, ?_,fun kf=>by simp only[cond_true,cond_false,e4];rfl⟩
  exact⟨(hlen _).1,(hlen _).2,ur h4 (by show(l.getD k ab).2.2.2.2.2.length≤7;omega) (by simp at hv;exact⟨by first |exact xE.1 |(dsimp only;omega),by first |exact xE.2.1 |(dsimp only;omega),by first |exact xE.2.2.1 |(dsimp only;omega),by first |exact xE.2.2.2.1 |(dsimp only;omega),by first |exact xE.2.2.2.2.1 |(dsimp only;omega),by first |exact xE.2.2.2.2.2 |(dsimp only;omega)⟩)⟩
 cases w==2
 rotate_left
 ·obtain⟨v,c4,pd,hv,e4⟩:=oneOf (N:=N) (l:=[(-1:Int),(100000:Int),(100001:Int)]) (by simp) (by simp) nL
  refine⟨_,c4,pd, ?_,fun kf=>by simp only[cond_true,cond_false,e4];rfl⟩
  exact⟨(hlen _).1,(hlen _).2,ur h4 (by show(l.getD k ab).2.2.2.2.2.length≤7;omega) (by simp at hv;exact⟨by first |exact xE.1 |(dsimp only;omega),by first |exact xE.2.1 |(dsimp only;omega),by first |exact xE.2.2.1 |(dsimp only;omega),by first |exact xE.2.2.2.1 |(dsimp only;omega),by first |exact xE.2.2.2.2.1 |(dsimp only;omega),by first |exact xE.2.2.2.2.2 |(dsimp only;omega)⟩)⟩
 cases w==3
 rotate_left
 ·have hd:decide ((List.length (l.getD k ab).2.2.2.2.2+List.length [(2:Int)])*1≤4398046511104)=true:=decide_eq_true (by have:List.length [(2:Int)]=1:=rfl;omega)
  refine⟨_,c3,nL, ?_,fun kf=>by simp only[cond_true,cond_false,hd,Nat.beq_refl];rfl⟩
  exact⟨(hlen _).1,(hlen _).2,ur h4 (by show((l.getD k ab).2.2.2.2.2++[(2:Int)]).length≤7;rw[List.length_append];show _+1≤7;omega) xE⟩
 cases w==4
 rotate_left
 ·obtain⟨v,c4,pd,hv,e4⟩:=oneOf (N:=N) (l:=[(0:Int),(99:Int),(100:Int)]) (by simp) (by simp) nL
  refine⟨_,c4,pd, ?_,fun kf=>by simp only[cond_true,cond_false,e4];rfl⟩
  exact⟨(hlen _).1,(hlen _).2,ur h4 (by show(l.getD k ab).2.2.2.2.2.length≤7;omega) (by simp at hv;exact⟨by first |exact xE.1 |(dsimp only;omega),by first |exact xE.2.1 |(dsimp only;omega),by first |exact xE.2.2.1 |(dsimp only;omega),by first |exact xE.2.2.2.1 |(dsimp only;omega),by first |exact xE.2.2.2.2.1 |(dsimp only;omega),by first |exact xE.2.2.2.2.2 |(dsimp only;omega)⟩)⟩
 ·exact⟨l,c3,nL,⟨h1,h2,h4⟩,fun kf=>by simp only[cond_false]⟩
def l5 (M:Nat) (l:List bu):Prop:=∀ x:bu,x∈l→x.2.2.length≤M
theorem rL {N:Nat}:∀ (d:Nat) (i n:Nat) (c:qU) (l:List bu),dy c→i+d=6→1≤i→l.length+1=i→d<n→l5 1 l→∃ r:List bu,∃ c':qU,dy c'∧(1≤r.length∧r.length≤5∧l5 1 r)∧∀ kf,mT N n kf c l (i:Int)=kf c' r
 |0,i,n,c,l,hc,hi,h1,hl,hn,hm=>by
  obtain⟨n,rfl⟩:∃ j,n=j+1:=⟨n - 1,by omega⟩
  obtain⟨v,c1,iu,hv,e1⟩:=below (N:=N) (n:=5) (by omega) (by omega) hc
  refine⟨l,c1,iu,⟨by omega,by omega,hm⟩,fun kf=> ?_⟩
  unfold mT
  rw[e1,wrap64 (by omega) (by omega),decide_eq_false (by omega)]
  rfl
 |d+1,i,n,c,l,hc,hi,h1,hl,hn,hm=>by
  obtain⟨n,rfl⟩:∃ j,n=j+1:=⟨n - 1,by omega⟩
  obtain⟨v,c1,iu,hv,e1⟩:=below (N:=N) (n:=5) (by omega) (by omega) hc
  by_cases hg:(i:Int)≤1+v
  ·obtain⟨v2,c2,gp,Wc,e2⟩:=below (N:=N) (n:=5) (by omega) (by omega) iu
   obtain⟨b,c3,nL,e3⟩:=once (N:=N) (n:=3) (by omega) (by omega) gp
   have J:∀ (c4:qU) (y:List Int),dy c4→y.length≤1→∃ r:List bu,∃ c':qU,dy c'∧(1≤r.length∧r.length≤5∧l5 1 r)∧∀ kf,D1 v2 (mT N n kf) l (i:Int) c4 y=kf c' r:=fun c4 y pd hy=>by
    obtain⟨r,c5,TT,hr,e5⟩:=rL d (i+1) n c4 (l++[((IntKind.wrap .i64 ((10:Int)+(i:Int))),((IntKind.wrap .i64 ((1:Int)+v2)),y))]) pd (by omega) (by omega) (by simp;omega) (by omega) (fun x hx=>by
     rcases List.mem_append.1 hx with hx |hx
     ·exact hm x hx
     ·rw[List.mem_singleton.1 hx];exact hy)
    refine⟨r,c5,TT,hr,fun kf=> ?_⟩
    unfold D1
    rw[decide_eq_true (by simp;omega),cond_true,wrap64 (n:=(i:Int)+1) (by omega) (by omega)]
    exact e5 kf
   cases b with
   |false=>
    obtain⟨r,c5,TT,hr,e5⟩:=J c3 [] nL (by simp)
    refine⟨r,c5,TT,hr,fun kf=> ?_⟩
    unfold mT
    rw[e1,wrap64 (n:=1+v) (by omega) (by omega),decide_eq_true hg,cond_true,e2,e3]
    exact e5 kf
   |true=>
    obtain⟨v4,c4,pd,hv4,e4⟩:=below (N:=N) (n:=6) (by omega) (by omega) nL
    obtain⟨r,c5,TT,hr,e5⟩:=J c4 [(IntKind.wrap .i64 ((2:Int)*(IntKind.wrap .i64 ((1:Int)+v4))))] pd (by simp)
    refine⟨r,c5,TT,hr,fun kf=> ?_⟩
    unfold mT
    rw[e1,wrap64 (n:=1+v) (by omega) (by omega),decide_eq_true hg,cond_true,e2,e3,cond_true,e4]
    exact e5 kf
  ·refine⟨l,c1,iu,⟨by omega,by omega,hm⟩,fun kf=> ?_⟩
   unfold mT
   rw[e1,wrap64 (by omega) (by omega),decide_eq_false hg]
   rfl
theorem rM {N:Nat} (hN:200<N):nK (S59 N) fun l=>1≤l.length∧l.length≤5∧l5 1 l:=fun c hc=>by
 obtain⟨l,c1,iu,h1,e1⟩:=rL (N:=N) 5 1 N c [] hc rfl (by omega) rfl (by omega) (fun x hx=>by cases hx)
 exact⟨l,c1,iu,h1,fun kf=>e1 _⟩
theorem AB {M:Nat} {l:List bu} {i:Nat} {y:bu} (h:l5 M l) (hy:y.2.2.length≤M):l5 M (l.set i y):=fun x hx=>by
 rcases List.mem_or_eq_of_mem_set hx with hx |rfl
 ·exact h x hx
 ·exact hy
theorem Ej {N:Nat} (hN:200<N):nK (S61 N) fun l=>1≤l.length∧l.length≤5∧l5 2 l:=fun c hc=>by
 obtain⟨l,c1,iu,⟨h1,h2,h3⟩,e1⟩:=rM hN c hc
 obtain⟨i,c2,gp,hi,e2⟩:=below (N:=N) (n:=(l.length:Int)) (by omega) (by omega) iu
 obtain⟨k,rfl⟩:∃ k:Nat,i=(k:Int):=⟨i.toNat,by omega⟩
 have hk:k<l.length:=by omega
 obtain⟨w,c3,nL,hw,e3⟩:=below (N:=N) (n:=12) (by omega) (by omega) gp
 have h4:l5 2 l:=fun x hx=>by have:=h3 x hx;omega
 have hgm:(l.getD k ar).2.2.length≤1:=h3 _ (by rw[au _ _ hk];exact List.getElem_mem hk)
 have hlen:∀ y:bu,1≤(l.set k y).length∧(l.set k y).length≤5:=fun y=>by rw[List.length_set];omega
 unfold S61
 simp only[e1,e2,e3,aM hk,Int.toNat_natCast,cond_true]
 cases w==0
 rotate_left
 ·obtain⟨v,c4,pd,_,e4⟩:=oneOf (N:=N) (l:=[(0:Int),(11:Int),(99:Int),(100:Int)]) (by simp) (by simp) nL
  refine⟨_,c4,pd, ?_,fun kf=>by simp only[cond_true,e4];rfl⟩
  exact⟨(hlen _).1,(hlen _).2,AB h4 (by show(l.getD k ar).2.2.length≤2;omega)⟩
 cases w==1
 rotate_left
 ·obtain⟨v,c4,pd,_,e4⟩:=oneOf (N:=N) (l:=[(0:Int),(99:Int),(100:Int)]) (by simp) (by simp) nL
  refine⟨_,c4,pd, ?_,fun kf=>by simp only[cond_true,cond_false,e4];rfl⟩
  exact⟨(hlen _).1,(hlen _).2,AB h4 (by show(l.getD k ar).2.2.length≤2;omega)⟩
 cases w==2
 rotate_left
 ·refine⟨_,c3,nL, ?_,fun kf=>by simp only[cond_true,cond_false];rfl⟩
  exact⟨(hlen _).1,(hlen _).2,AB h4 (Nat.le_refl 2)⟩
 ·exact⟨l,c3,nL,⟨h1,h2,h4⟩,fun kf=>by simp only[cond_false]⟩
theorem uv {N:Nat} (hN:200<N):∀ (k n:Nat) (c:qU) (l:List oD),dy c→k<n→l.length+k≤100→∃ r:List oD,∃ c':qU,dy c'∧r.length≤l.length+k∧∀ kf,vi N n kf c l (k:Int)=kf c' r
 |0,n,c,l,hc,hn,hl=>by
  obtain⟨n,rfl⟩:∃ j,n=j+1:=⟨n - 1,by omega⟩
  refine⟨l,c,hc,by omega,fun kf=> ?_⟩
  unfold vi
  rw[decide_eq_false (by omega)]
  rfl
 |k+1,n,c,l,hc,hn,hl=>by
  obtain⟨n,rfl⟩:∃ j,n=j+1:=⟨n - 1,by omega⟩
  obtain⟨a,c1,iu,_,e1⟩:=below (N:=N) (n:=9) (by omega) (by omega) hc
  obtain⟨b,c2,gp,_,e2⟩:=below (N:=N) (n:=5) (by omega) (by omega) iu
  have hw:∀ a b kf,S67 N l a b kf=kf (iS l a b) (mW l a b):=fun a b kf=>Tn (by omega) (by omega) (by omega)
  have hwl:=Lb l (IntKind.wrap .i64 ((1:Int)+a)) b
  obtain⟨r,c3,nL,hr,e3⟩:=uv hN k n c2 (iS l (IntKind.wrap .i64 ((1:Int)+a)) b) gp (by omega) (by omega)
  refine⟨r,c3,nL,by omega,fun kf=> ?_⟩
  unfold vi
  rw[decide_eq_true (by omega),cond_true]
  simp only[e1,e2,hw]
  rw[wrap64 (n:=((k+1:Nat):Int) - 1) (by omega) (by omega),show(((k+1:Nat):Int) - 1)=(k:Int) by omega]
  exact e3 kf
theorem El {N:Nat} (hN:200<N):nK (S62 N) fun l=>l.length≤8:=fun c hc=>by
 obtain⟨v,c1,iu,hv,e1⟩:=below (N:=N) (n:=9) (by omega) (by omega) hc
 obtain⟨k,rfl⟩:∃ k:Nat,v=(k:Int):=⟨v.toNat,by omega⟩
 obtain⟨l,c2,gp,hl,e2⟩:=uv hN k N c1 [] iu (by omega) (by simp;omega)
 have hl8:l.length≤8:=by simp at hl;omega
 unfold S62
 simp only[e1,e2]
 by_cases h0:(List.length l:Int)>0
 rotate_left
 ·exact⟨l,c2,gp,hl8,fun kf=>by rw[decide_eq_false h0];rfl⟩
 rw[decide_eq_true h0]
 simp only[cond_true]
 obtain⟨i,c3,nL,hi,e3⟩:=below (N:=N) (n:=(l.length:Int)) (by omega) (by omega) gp
 obtain⟨j,rfl⟩:∃ j:Nat,i=(j:Int):=⟨i.toNat,by omega⟩
 have hj:j<l.length:=by omega
 obtain⟨w,c4,pd,hw,e4⟩:=below (N:=N) (n:=10) (by omega) (by omega) nL
 have hlen:∀ y:oD,(l.set j y).length≤8:=fun y=>by rw[List.length_set];exact hl8
 simp only[e3,e4,aM hj,Int.toNat_natCast,cond_true]
 cases w==0
 rotate_left
 ·obtain⟨v,c5,TT,_,e5⟩:=oneOf (N:=N) (l:=[(-1:Int),(99:Int),(100:Int)]) (by simp) (by simp) pd
  exact⟨_,c5,TT,hlen _,fun kf=>by simp only[cond_true,e5];rfl⟩
 cases w==1
 rotate_left
 ·exact⟨_,c4,pd,hlen _,fun kf=>by simp only[cond_true,cond_false];rfl⟩
 cases w==2
 rotate_left
 ·exact⟨_,c4,pd,hlen _,fun kf=>by simp only[cond_true,cond_false];rfl⟩
 ·exact⟨l,c4,pd,hl8,fun kf=>by simp only[cond_false]⟩
end Go.Pv.R
namespace Go.Pv.R
set_option linter.unusedVariables false
set_option linter.unusedSimpArgs false
end Go.Pv.R
namespace Go.Pv.R
set_option linter.unusedVariables false
set_option linter.unusedSimpArgs false
end Go.Pv.R
namespace Go.Pv.R
set_option linter.unusedVariables false
set_option linter.unusedSimpArgs false
end Go.Pv.R
namespace Go.Pv.R
set_option linter.unusedVariables false
set_option linter.unusedSimpArgs false
end Go.Pv.R
namespace Go.Pv.R
set_option linter.unusedVariables false
set_option linter.unusedSimpArgs false
theorem aiu {N:Nat} {c:aU} {id dC:Int} {kf:aU→Bool→Option af} (h:Lj c N):S29 N c id dC kf=kf (gO c ((1:Int),(id,(dC,0)))).1 (gO c ((1:Int),(id,(dC,0)))).2:=(acw h.ok h.tb h.tN h.N2 h.mN).trans (YZ (c:=c) (r:=Dc c (qm c id dC) 1 id) (k:=kf))
theorem acI {N:Nat} {c:aU} {id dC:Int} {kf:aU→Bool→Option af} (h:Lj c N):S30 N c id dC kf=kf (gO c ((2:Int),(id,(dC,0)))).1 (gO c ((2:Int),(id,(dC,0)))).2:=acx h.ok h.jb h.jN h.N2 h.mN
theorem Y0 {N:Nat} {c:aU} {kf:aU→Bool→Option af} (h:Lj c N):S31 N c kf=kf (gO c ((3:Int),(0,(0,0)))).1 (gO c ((3:Int),(0,(0,0)))).2:=acC h.ok h.ok' h.N2 h.mN
theorem XD {N:Nat} {c:aU} {n f s:Int} {kf:aU→Bool→Option af} (h:Lj c N):S34 N c n f s kf=kf (gO c ((4:Int),(f,(s,n)))).1 (gO c ((4:Int),(f,(s,n)))).2:=(acu h.ok h.N2 h.mN).trans (YZ (c:=c) (r:=Dc c (ue c n f s) 4 (zZ c n f s).1) (k:=kf))
theorem acJ {N:Nat} {c:aU} {kf:aU→Bool→Option af} (h:Lj c N):S32 N c kf=kf (gO c ((5:Int),(0,(0,0)))).1 (gO c ((5:Int),(0,(0,0)))).2:=acE h.ok h.N2 h.mN
theorem Good.ev {c:aU} {N:Nat} (h:Good c) (hN:400<N):Lj c N:=(qv h.cl).evC hN
theorem acK {N:Nat} (hN:400<N) {z:aU}:∀ (d i n:Nat) (c:qU) (x:aU),dy c→Good x→i+d=7→1≤i→d<n→∃ x':aU,∃ c':qU,dy c'∧Good x'∧∀ kf,sL N z n kf c x (i:Int)=kf c' x':=by
 intro d
 induction d with
 |zero=>
  intro i n c x hc hx hi h1 hn
  obtain⟨n,rfl⟩:∃ j,n=j+1:=⟨n - 1,by omega⟩
  obtain⟨v,c1,iu,hv,e1⟩:=below (N:=N) (n:=3) (by omega) (by omega) hc
  refine⟨x,c1,iu,hx,fun kf=> ?_⟩
  unfold sL
  rw[e1,wrap64 (n:=1+v) (by omega) (by omega),wrap64 (by omega) (by omega),decide_eq_false (by omega)]
  rfl
 |succ d ih=>
  intro i n c x hc hx hi h1 hn
  obtain⟨n,rfl⟩:∃ j,n=j+1:=⟨n - 1,by omega⟩
  obtain⟨v,c1,iu,hv,e1⟩:=below (N:=N) (n:=3) (by omega) (by omega) hc
  by_cases hg:(i:Int)≤2*(1+v)
  ·obtain⟨x2,c2,gp,nf,e2⟩:=ih (i+1) n c1 (gO x ((1:Int),((IntKind.wrap .i64 ((2:Int)*(i:Int))),((IntKind.wrap .i64 ((1:Int)+(Int.tmod (i:Int) (3:Int)))),0)))).1 iu (qx hx _) (by omega) (by omega) (by omega)
   refine⟨x2,c2,gp,nf,fun kf=> ?_⟩
   unfold sL
   rw[e1,wrap64 (n:=1+v) (by omega) (by omega),wrap64 (n:=2*(1+v)) (by omega) (by omega),decide_eq_true hg,cond_true,aiu (hx.ev hN),wrap64 (n:=(i:Int)+1) (by omega) (by omega)]
   exact e2 kf
  ·refine⟨x,c1,iu,hx,fun kf=> ?_⟩
   unfold sL
   rw[e1,wrap64 (n:=1+v) (by omega) (by omega),wrap64 (by omega) (by omega),decide_eq_false hg]
   rfl
theorem acL {N:Nat} (hN:400<N) {z:aU}:∀ (d i n:Nat) (c:qU) (x:aU),dy c→Good x→i+d=6→1≤i→d<n→∃ x':aU,∃ c':qU,dy c'∧Good x'∧∀ kf,sM N z n kf c x (i:Int)=kf c' x':=by
 intro d
 induction d with
 |zero=>
  intro i n c x hc hx hi h1 hn
  obtain⟨n,rfl⟩:∃ j,n=j+1:=⟨n - 1,by omega⟩
  obtain⟨v,c1,iu,hv,e1⟩:=below (N:=N) (n:=4) (by omega) (by omega) hc
  refine⟨x,c1,iu,hx,fun kf=> ?_⟩
  unfold sM
  rw[e1,wrap64 (by omega) (by omega),decide_eq_false (by omega)]
  rfl
 |succ d ih=>
  intro i n c x hc hx hi h1 hn
  obtain⟨n,rfl⟩:∃ j,n=j+1:=⟨n - 1,by omega⟩
  obtain⟨v,c1,iu,hv,e1⟩:=below (N:=N) (n:=4) (by omega) (by omega) hc
  by_cases hg:(i:Int)≤2+v
  ·obtain⟨v2,c2,gp,Wc,e2⟩:=below (N:=N) (n:=2) (by omega) (by omega) iu
   obtain⟨x2,c3,nL,nf,e3⟩:=ih (i+1) n c2 (gO x ((2:Int),((IntKind.wrap .i64 ((10:Int)+(i:Int))),((IntKind.wrap .i64 ((4:Int)+v2)),0)))).1 gp (qx hx _) (by omega) (by omega) (by omega)
   refine⟨x2,c3,nL,nf,fun kf=> ?_⟩
   unfold sM
   rw[e1,wrap64 (n:=2+v) (by omega) (by omega),decide_eq_true hg,cond_true,e2,acI (hx.ev hN),wrap64 (n:=(i:Int)+1) (by omega) (by omega)]
   exact e3 kf
  ·refine⟨x,c1,iu,hx,fun kf=> ?_⟩
   unfold sM
   rw[e1,wrap64 (n:=2+v) (by omega) (by omega),decide_eq_false hg]
   rfl
theorem XE {N:Nat} (hN:400<N) {z:aU}:∀ (k n:Nat) (c:qU) (x:aU),dy c→Good x→k<n→k≤100→∃ x':aU,∃ c':qU,dy c'∧Good x'∧∀ kf,fY N z n kf c x (k:Int)=kf c' x':=by
 intro k
 induction k with
 |zero=>
  intro n c x hc hx hn hk
  obtain⟨n,rfl⟩:∃ j,n=j+1:=⟨n - 1,by omega⟩
  refine⟨x,c,hc,hx,fun kf=> ?_⟩
  unfold fY
  rw[decide_eq_false (by omega)]
  rfl
 |succ k ih=>
  intro n c x hc hx hn hk
  obtain⟨n,rfl⟩:∃ j,n=j+1:=⟨n - 1,by omega⟩
  obtain⟨v,c1,iu,hv,e1⟩:=below (N:=N) (n:=4) (by omega) (by omega) hc
  have Nc:IntKind.wrap .i64 (((k+1:Nat):Int) - 1)=(k:Int):=by rw[wrap64 (by omega) (by omega)];omega
  have hOK:bZ x N:=(qv hx.cl).okC (by omega)
  have step:∀ (c2:qU) (e:br),dy c2→∃ x':aU,∃ c':qU,dy c'∧Good x'∧∀ kf,fY N z n kf c2 (gO x e).1 (k:Int)=kf c' x':=fun c2 e gp=>ih n c2 _ gp (qx hx e) (by omega) (by omega)
  have hw:=vn x
  have b10:=(qv hx.cl).b10
  cases hv0:v==0 with
  |true=>
   obtain⟨x2,c2,gp,nf,e2⟩:=step c1 ((3:Int),(0,(0,0))) iu
   refine⟨x2,c2,gp,nf,fun kf=> ?_⟩
   unfold fY
   rw[decide_eq_true (by omega),cond_true,e1,hv0,cond_true,Y0 (hx.ev hN),Nc]
   exact e2 kf
  |false=>
   cases hv1:v==1 with
   |true=>
    obtain⟨x2,c2,gp,nf,e2⟩:=step c1 ((5:Int),(0,(0,0))) iu
    refine⟨x2,c2,gp,nf,fun kf=> ?_⟩
    unfold fY
    rw[decide_eq_true (by omega),cond_true,e1,hv0,hv1,cond_false,cond_true,acJ (hx.ev hN),Nc]
    exact e2 kf
   |false=>
    by_cases hwz:(List.length (bc x):Int)>0
    ·obtain⟨p,c2,gp,hp,e2⟩:=below (N:=N) (n:=20) (by omega) (by omega) iu
     obtain⟨q,c3,nL,hq,e3⟩:=oneOf (N:=N) (l:=[(-2:Int),(1:Int),(3:Int)]) (by simp) (by simp) gp
     obtain⟨x2,c4,pd,nf,e4⟩:=step c3 ((4:Int),((IntKind.wrap .i64 ((60:Int)+p)),((IntKind.wrap .i64 ((IntKind.wrap .i64 ((60:Int)+p))+q)),(List.getD (bc x) (Int.toNat (0:Int)) (0:Int))))) nL
     refine⟨x2,c4,pd,nf,fun kf=> ?_⟩
     have jc:bw (0:Int) (List.length (bc x))=true:=by
      have:=aM (i:=0) (m:=(bc x).length) (by omega)
      exact this
     unfold fY
     rw[decide_eq_true (by omega),cond_true,e1,hv0,hv1,cond_false,cond_false,K9 hOK,decide_eq_true hwz,cond_true,e2,jc,cond_true,e3,XD (hx.ev hN),Nc]
     exact e4 kf
    ·obtain⟨x2,c2,gp,nf,e2⟩:=step c1 ((3:Int),(0,(0,0))) iu
     refine⟨x2,c2,gp,nf,fun kf=> ?_⟩
     unfold fY
     rw[decide_eq_true (by omega),cond_true,e1,hv0,hv1,cond_false,cond_false,K9 hOK,decide_eq_false hwz,cond_false,Y0 (hx.ev hN),Nc]
     exact e2 kf
theorem B5 {N:Nat} (hN:400<N):nK (S18 N) Good:=fun c hc=>by
 obtain⟨x1,c1,iu,hx1,e1⟩:=acK (N:=N) hN (z:=TS) 6 1 N c TS hc PM rfl (by omega) (by omega)
 obtain⟨x2,c2,gp,nf,e2⟩:=acL (N:=N) hN (z:=TS) 5 1 N c1 x1 iu hx1 rfl (by omega) (by omega)
 obtain⟨v,c3,nL,hv,e3⟩:=below (N:=N) (n:=9) (by omega) (by omega) gp
 obtain⟨k,rfl⟩:∃ k:Nat,v=(k:Int):=⟨v.toNat,by omega⟩
 obtain⟨x4,c4,pd,hx4,e4⟩:=XE (N:=N) hN (z:=TS) k N c3 x2 nL nf (by omega) (by omega)
 refine⟨x4,c4,pd,hx4,fun kf=> ?_⟩
 unfold S18 S27
 refine(e1 _).trans ?_
 refine(e2 _).trans ?_
 rw[e3]
 exact e4 _
end Go.Pv.R
namespace Go.Pv.R
set_option linter.unusedVariables false
set_option linter.unusedSimpArgs false
end Go.Pv.R
namespace Go.Pv.R
set_option linter.unusedVariables false
set_option linter.unusedSimpArgs false
end Go.Pv.R
namespace Go.Pv.R
set_option linter.unusedVariables false
set_option linter.unusedSimpArgs false
end Go.Pv.R
namespace Go.Pv.R
set_option linter.unusedVariables false
set_option linter.unusedSimpArgs false
end Go.Pv.R
namespace Go.Pv.R
set_option linter.unusedVariables false
set_option linter.unusedSimpArgs false
end Go.Pv.R
namespace Go.Pv.R
set_option linter.unusedVariables false
set_option linter.unusedSimpArgs false
end Go.Pv.R
namespace Go.Pv.R
set_option linter.unusedVariables false
set_option linter.unusedSimpArgs false
structure Nd (c:aU):Prop where
 t:c.1.length≤6
 tm:mK 7 c.1
 j:c.2.1.length≤5
 jm:l5 2 c.2.1
 r:c.2.2.1.length≤5
 s:c.2.2.2.1.length≤6
 b:c.2.2.2.2.1.length≤6
 m:c.2.2.2.2.2.1.length≤9
 pl:kE c.2.2.2.2.2.2
theorem TU {c:aU} {N:Nat} (h:Nd c) (hN:200<N):bZ c N:=by
 have hm:=aW
 obtain⟨t,tm,j,jm,r,s,b,m,_⟩:=h
 exact⟨by omega,fun x hx=>by have:=tm x hx;omega,by omega,by omega,fun x hx=>by have:=jm x hx;omega,by omega,by omega,by omega,by omega,by omega,by omega,by omega,by omega,by omega,by omega,by omega,fun x hx=>by have:=tm x hx;omega,by omega,fun x hx=>by have:=jm x hx;omega⟩
theorem oJ (n:Int):kE (IntKind.wrap .i64 n):=by
 unfold kE
 simp[IntKind.wrap,IntKind.bits,IntKind.signed]
 split<;>omega
theorem acM {N:Nat} (hN:200<N) {t:List az} {j:List bu} {w:Int} (hw:kE w) (t2:t.length≤6) (t3:mK 6 t) (j2:j.length≤5) (j3:l5 1 j) (c:qU) (r:List cN) (s:List Int) (b:List gn) (hc:dy c) (hr:r.length≤5) (hs:s.length≤5) (hb:b.length≤5):
  ∃ v:aU,∃ c':qU,dy c'∧Nd v∧∀ kf,jA S39 S59 YA YG Xh YL mg S24 S61 S62 N kf j w t c r s b=kf v c':=by
 obtain⟨k,c1,iu,hk,e1⟩:=below (N:=N) (n:=12) (by omega) (by omega) hc
 have t4:mK 7 t:=fun x hx=>by have:=t3 x hx;omega
 have j4:l5 2 j:=fun x hx=>by have:=j3 x hx;omega
 unfold jA
 simp only[e1,jz]
 cases k==0
 rotate_left
 ·obtain⟨t',c2,gp,⟨h1,h2,h3⟩,e2⟩:=uu (N:=N) (by omega) c1 iu
  refine⟨_,c2,gp, ?_,fun kf=>by simp only[cond_true,e2];rfl⟩
  exact⟨h2,h3,j2,j4,hr,by show s.length≤6;omega,by show b.length≤6;omega,by show 0≤9;omega,by first |exact hw |exact oJ _⟩
 cases k==1
 rotate_left
 ·obtain⟨t',c2,gp,⟨h1,h2,h3⟩,e2⟩:=Ej (N:=N) (by omega) c1 iu
  refine⟨_,c2,gp, ?_,fun kf=>by simp only[cond_true,cond_false,e2];rfl⟩
  exact⟨t2,t4,h2,h3,hr,by show s.length≤6;omega,by show b.length≤6;omega,by show 0≤9;omega,by first |exact hw |exact oJ _⟩
 cases k==2
 rotate_left
 ·refine⟨_,c1,iu, ?_,fun kf=>by simp only[cond_true,cond_false];rfl⟩
  exact⟨t2,t4,j2,j4,hr,by show s.length≤6;omega,by show b.length≤6;omega,by show 0≤9;omega,by first |exact hw |exact oJ _⟩
 cases k==3
 rotate_left
 ·obtain⟨t',c2,gp,h1,e2⟩:=El (N:=N) (by omega) c1 iu
  refine⟨_,c2,gp, ?_,fun kf=>by simp only[cond_true,cond_false,e2];rfl⟩
  exact⟨t2,t4,j2,j4,hr,by show s.length≤6;omega,by show b.length≤6;omega,by show t'.length≤9;omega,hw⟩
 cases k==4
 rotate_left
 ·have hd:decide ((List.length s+List.length [(11:Int)])*1≤4398046511104)=true:=decide_eq_true (by have:List.length [(11:Int)]=1:=rfl;omega)
  refine⟨_,c1,iu, ?_,fun kf=>by simp only[cond_true,cond_false,hd];rfl⟩
  exact⟨t2,t4,j2,j4,hr,by show(s++[(11:Int)]).length≤6;rw[List.length_append];show _+1≤6;omega,by show b.length≤6;omega,by show 0≤9;omega,by first |exact hw |exact oJ _⟩
 cases k==5
 rotate_left
 ·have hd:decide ((List.length b+List.length [((0:Int),((0:Int),(0:Int)))])*3≤4398046511104)=true:=decide_eq_true (by have:List.length [((0:Int),((0:Int),(0:Int)))]=1:=rfl;omega)
  refine⟨_,c1,iu, ?_,fun kf=>by simp only[cond_true,cond_false,hd];rfl⟩
  exact⟨t2,t4,j2,j4,hr,by show s.length≤6;omega,by show(b++[((0:Int),((0:Int),(0:Int)))]).length≤6;rw[List.length_append];show _+1≤6;omega,by show 0≤9;omega,by first |exact hw |exact oJ _⟩
 ·refine⟨_,c1,iu, ?_,fun kf=>by simp only[cond_false];rfl⟩
  exact⟨t2,t4,j2,j4,hr,by show s.length≤6;omega,by show b.length≤6;omega,by show 0≤9;omega,by first |exact hw |exact oJ _⟩
theorem Nf:∀ (l:List az) (i:Nat) (s:Int),kE s→kE (foldI (fun _ (x:az) s=>IntKind.wrap .i64 (s+x.2.2.1)) l i s)
 |[],i,s,h=>h
 |x::r,i,s,_=>Nf r (i+1) _ (oJ _)
theorem Em {N:Nat} (hN:200<N):nK (S36 N) Nd:=fun c hc=>by
 have hm:=aW
 obtain⟨t,c1,iu,⟨t1,t2,t3⟩,e1⟩:=rK hN c hc
 obtain⟨j,c2,gp,⟨j1,j2,j3⟩,e2⟩:=rM hN c1 iu
 obtain⟨w,hw,ew⟩:∃ w,kE w∧∀ kf,YA N t kf=kf w:=by
  refine⟨_, ?_,fun kf=>Tk (by omega) (fun x hx=>by have:=t3 x hx;omega) (by omega)⟩
  cases aD t with
  |false=>show kE 0;unfold kE;omega
  |true=>exact Nf t 0 0 (by unfold kE;omega)
 obtain⟨r,ok,hr,er⟩:∃ (r:List cN) (ok:Bool),r.length≤5∧∀ kf,YG N t kf=kf r ok:=by
  cases hq:qs t with
  |none=>exact⟨[],false,by simp,fun kf=>by rw[Le (by omega) (fun x hx=>by have:=t3 x hx;omega) (by omega) (by omega),hq];rfl⟩
  |some r=>exact⟨r,true,by have:=Am hq;omega,fun kf=>by rw[Le (by omega) (fun x hx=>by have:=t3 x hx;omega) (by omega) (by omega),hq];rfl⟩
 obtain⟨s,lT,hs,hs2,es⟩:∃ (s:List Int) (lT:Bool),s.length≤5∧(lT=true→s.length=r.length)∧∀ kf,Xh N t j r kf=kf s lT:=by
  have h0:∀ kf,Xh N t j r kf=M8 (mY t j r) kf:=fun kf=>Lh (by omega) (fun x hx=>by have:=t3 x hx;omega) (by omega) (by omega) (by omega) (by omega) (fun x hx=>by have:=j3 x hx;omega) (by omega)
  cases hq:mY t j r with
  |none=>exact⟨[],false,by simp,by simp,fun kf=>by rw[h0,hq];rfl⟩
  |some s=>exact⟨s,true,by have:=sV hq;omega,fun _=>sV hq,fun kf=>by rw[h0,hq];rfl⟩
 have J:=acM hN (w:=w) hw t2 t3 j2 j3
 unfold S36 Si
 simp only[e1,e2,ew,er,es]
 cases ok with
 |false=>obtain⟨v,c',h1,h2,h3⟩:=J c2 [] [] [] gp (by simp) (by simp) (by simp);exact⟨v,c',h1,h2,fun kf=>by simp only[cond_false];exact h3 kf⟩
 |true=>
 cases lT with
 |false=>obtain⟨v,c',h1,h2,h3⟩:=J c2 [] [] [] gp (by simp) (by simp) (by simp);exact⟨v,c',h1,h2,fun kf=>by simp only[cond_true,cond_false];exact h3 kf⟩
 |true=>
 obtain⟨b1,c3,nL,e3⟩:=once (N:=N) (n:=3) (by omega) (by omega) gp
 have hsr:=hs2 rfl
 cases b1 with
 |true=>
  obtain⟨v,c',h1,h2,h3⟩:=J c3 [] [] [] nL (by simp) (by simp) (by simp)
  refine⟨v,c',h1,h2,fun kf=> ?_⟩
  rw[cond_true,cond_true,e3,Bool.not_true,cond_false]
  exact h3 kf
 |false=>
 have JS:decide ((0:Int)≤(List.length r:Int))=true:=decide_eq_true (by omega)
 have hd2:decide ((List.length r:Int)≤1099511627776)=true:=decide_eq_true (by omega)
 by_cases h0:(List.length r:Int)>0
 rotate_left
 ·obtain⟨v,c',h1,h2,h3⟩:=J c3 r s (List.replicate (Int.toNat (List.length r:Int)) ((0:Int),((0:Int),(0:Int)))) nL hr hs (by simpa using hr)
  refine⟨v,c',h1,h2,fun kf=> ?_⟩
  rw[cond_true,cond_true,e3,Bool.not_false,cond_true,decide_true,JS,hd2,show(true&&true&&true)=true from rfl,cond_true,decide_eq_false h0,cond_false]
  exact h3 kf
 obtain⟨b2,c4,pd,e4⟩:=once (N:=N) (n:=2) (by omega) (by omega) nL
 cases b2 with
 |false=>
  obtain⟨v,c',h1,h2,h3⟩:=J c4 r s (List.replicate (Int.toNat (List.length r:Int)) ((0:Int),((0:Int),(0:Int)))) pd hr hs (by simpa using hr)
  refine⟨v,c',h1,h2,fun kf=> ?_⟩
  rw[cond_true,cond_true,e3,Bool.not_false,cond_true,decide_true,JS,hd2,show(true&&true&&true)=true from rfl,cond_true,decide_eq_true h0,cond_true,e4,cond_false]
  exact h3 kf
 |true=>
  obtain⟨v,c',h1,h2,h3⟩:=J c4 r s (List.set (List.replicate (Int.toNat (List.length r:Int)) ((0:Int),((0:Int),(0:Int)))) (Int.toNat (0:Int)) ((List.getD s (Int.toNat (0:Int)) (0:Int)),((70:Int),(60:Int)))) pd hr hs (by rw[List.length_set];simpa using hr)
  refine⟨v,c',h1,h2,fun kf=> ?_⟩
  have i1:bw (0:Int) (List.length s)=true:=aM (i:=0) (by omega)
  have i2:bw (0:Int) (List.length (List.replicate (Int.toNat (List.length r:Int)) ((0:Int),((0:Int),(0:Int)))))=true:=aM (i:=0) (by rw[List.length_replicate];omega)
  rw[cond_true,cond_true,e3,Bool.not_false,cond_true,decide_true,JS,hd2,show(true&&true&&true)=true from rfl,cond_true,decide_eq_true h0,cond_true,e4,cond_true,i1,cond_true,i2,cond_true]
  exact h3 kf
theorem B6 {N:Nat} {a:List Int} (ha:a.length≤1048576) (hN:4000<N):∃ c:aU,Nd c∧∀ kf,S21 N a kf=kf c:=by
 obtain⟨c0,hc0,e0⟩:=uq (N:=N) ha (by omega)
 obtain⟨v,c1,_,hv,e1⟩:=Em (N:=N) (by omega) c0 hc0
 exact⟨v,hv,fun kf=>by unfold S21;rw[e0,e1]⟩
end Go.Pv.R
namespace Go.Pv.R
set_option linter.unusedVariables false
set_option linter.unusedSimpArgs false
def XF (x:cJ):Prop:= -1000≤x.1∧x.1≤1000∧ -1000≤x.2.1∧x.2.1≤1000
def ka (M:Nat) (l:List cJ):Prop:=l.length≤M∧∀ x:cJ,x∈l→XF x
def ptP (l:List cJ) (i:Nat) (x:cJ):Bool:=ic x.1 1 99&&(ic x.2.1 1 2&&(ic x.2.2 0 4&&(decide (i=0)|| !decide ((l.getD (i - 1) aT).1≥x.1))))
theorem Dd {N:Nat} {l:List cJ} {kf:Bool→Option af} (hl:l.length≤1000000) (hN:l.length<N):YO N l kf=kf (bif allI (ptP l) l 0 then decide ((List.length l:Int)≤(30:Int)) else false):=by
 have hm:=aW
 unfold YO
 rw[S6 (by omega) hN,mB (l:=l) (p:=ptP l) (kf:=kf false) (fun i x next hi e=> ?_) l 0 rfl]
 ·cases allI (ptP l) l 0<;>rfl
 ·simp only[lY]
  unfold ptP
  cases ic x.1 1 99 with
  |false=>rfl
  |true=>
  cases ic x.2.1 1 2 with
  |false=>rfl
  |true=>
  cases ic x.2.2 0 4 with
  |false=>rfl
  |true=>
  simp only[Bool.not_true,cond_false,Bool.true_and]
  by_cases h0:i=0
  ·subst h0;rfl
  ·rw[decide_eq_true (show(i:Int)>0 by omega),cond_true,qQ (by omega) hi (by omega),aM (by omega),cond_true,Int.toNat_natCast,decide_eq_false h0,Bool.false_or]
   cases decide ((l.getD (i - 1) aT).1≥x.1)<;>rfl
theorem raise_at {l:List cJ} {a:Int}:∀ (r:List cJ) (i:Nat),l.drop i=r→i≤l.length→∃ z:Nat,z≤l.length∧∀ k:Int→Option af,s4 (fun(i:Nat) (x:cJ) (next:Option af)=>bif (decide (x.1<a)) then next else k (i:Int)) (k (List.length l:Int)) r i=k (z:Int)
 |[],i,_,_=>⟨l.length,Nat.le_refl _,fun k=>rfl⟩
 |x::r,i,hd,hi=>by
  have cI:i<l.length:=by have:=congrArg List.length hd;simp at this;omega
  by_cases h:x.1<a
  ·obtain⟨z,hz,e⟩:=raise_at r (i+1) (by rw[List.drop_eq_getElem_cons cI] at hd;injection hd) (by omega)
   exact⟨z,hz,fun k=>by simp only[s4];rw[decide_eq_true h];exact e k⟩
  ·exact⟨i,hi,fun k=>by simp only[s4];rw[decide_eq_false h];rfl⟩
theorem TW {N M:Nat} {l:List cJ} {a b:Int} (h:ka M l) (hM:M≤100) (hN:200<N) (ha: -1000≤a∧a≤1000) (hb: -1000≤b∧b≤1000):∃ r:List cJ,∃ o:Bool,ka (M+1) r∧∀ kf,S81 N l a b kf=kf r o:=by
 have hm:=aW
 have hl:=h.1
 obtain⟨z,hz,ez⟩:=raise_at (l:=l) (a:=a) l 0 rfl (by omega)
 have h1:(decide ((0:Int)≤(0:Int))&&decide ((0:Int)≤(z:Int))&&decide ((z:Int)≤(List.length l:Int)))=true:=by
  rw[decide_eq_true (by omega),decide_eq_true (by omega),decide_eq_true (by omega)];rfl
 have h2:(decide ((0:Int)≤(z:Int))&&decide ((z:Int)≤(List.length l:Int))&&decide ((List.length l:Int)≤(List.length l:Int)))=true:=by
  rw[decide_eq_true (by omega),decide_eq_true (by omega),decide_eq_true (by omega)];rfl
 obtain⟨L,hL⟩:∃ L:List cJ,L=((([]:(List cJ))++(List.drop (Int.toNat (0:Int)) (List.take (Int.toNat (z:Int)) l)))++[(a,(b,(0:Int)))])++(List.drop (Int.toNat (z:Int)) (List.take (Int.toNat (List.length l:Int)) l)):=⟨_,rfl⟩
 have hi:ka (M+1) L:=by
  refine⟨?_,fun x hx=> ?_⟩
  ·rw[hL]
   simp only[List.length_append,List.length_drop,List.length_take,List.length_cons,List.length_nil,Int.toNat_natCast]
   omega
  ·rw[hL] at hx
   simp only[List.mem_append,List.mem_singleton] at hx
   rcases hx with ((hx |hx) |hx) |hx
   ·cases hx
   ·exact h.2 x (List.mem_of_mem_take (List.mem_of_mem_drop hx))
   ·rw[hx];exact⟨ha.1,ha.2,hb.1,hb.2⟩
   ·exact h.2 x (List.mem_of_mem_take (List.mem_of_mem_drop hx))
 have hw:ka (M+1) (([]:List cJ)++l):=⟨by simp;omega,fun x hx=>h.2 x (by simpa using hx)⟩
 have d1:decide ((List.length ([]:(List cJ))+List.length (List.drop (Int.toNat (0:Int)) (List.take (Int.toNat (z:Int)) l)))*3≤4398046511104)=true:=decide_eq_true (by simp only[List.length_drop,List.length_take,List.length_nil];omega)
 have d2:decide ((List.length (([]:(List cJ))++(List.drop (Int.toNat (0:Int)) (List.take (Int.toNat (z:Int)) l)))+List.length [(a,(b,(0:Int)))])*3≤4398046511104)=true:=decide_eq_true (by simp only[List.length_append,List.length_drop,List.length_take,List.length_nil,List.length_cons];omega)
 have d3:decide ((List.length ((([]:(List cJ))++(List.drop (Int.toNat (0:Int)) (List.take (Int.toNat (z:Int)) l)))++[(a,(b,(0:Int)))])+List.length (List.drop (Int.toNat (z:Int)) (List.take (Int.toNat (List.length l:Int)) l)))*3≤4398046511104)=true:=decide_eq_true (by simp only[List.length_append,List.length_drop,List.length_take,List.length_nil,List.length_cons];omega)
 have d4:decide ((List.length ([]:(List cJ))+List.length l)*3≤4398046511104)=true:=decide_eq_true (by simp only[List.length_nil];omega)
 have eA:∀ kf,YO N L kf=kf (bif allI (ptP L) L 0 then decide ((List.length L:Int)≤(30:Int)) else false):=fun kf=>Dd (by have:=hi.1;omega) (by have:=hi.1;omega)
 have eR:∀ kf,S81 N l a b kf=YO N L (fun Sk=>bif (!Sk) then kf (([]:List cJ)++l) false else kf L true):=fun kf=>by
  have ez2:∀ k:Int→Option af,qc l a b N k (0:Int)=k (z:Int):=fun k=>by
   rw[S8 (by omega) (by omega)]
   exact ez k
  unfold S81
  rw[ez2,h1,cond_true,h2,cond_true,d1,cond_true,d2,cond_true,d3,cond_true,d4,hL]
  rfl
 cases hq:(bif allI (ptP L) L 0 then decide ((List.length L:Int)≤(30:Int)) else false) with
 |false=>exact⟨_,false,hw,fun kf=>by rw[eR,eA,hq];rfl⟩
 |true=>exact⟨_,true,hi,fun kf=>by rw[eR,eA,hq];rfl⟩
def De (M:Nat) (F:(List cJ→Bool→Option af)→Option af):Prop:=∃ r:List cJ,∃ o:Bool,ka M r∧∀ kf,F kf=kf r o
theorem TX {M:Nat} {c:Bool} {F G:(List cJ→Bool→Option af)→Option af} (hF:De M F) (hG:De M G):De M fun kf=>bif c then F kf else G kf:=by
 cases c with
 |false=>exact hG
 |true=>exact hF
theorem vB {M:Nat} {r:List cJ} {o:Bool} (h:ka M r):De M fun kf=>kf r o:=⟨r,o,h,fun kf=>rfl⟩
theorem XG {M:Nat} {l:List cJ} {i:Nat} {v:Int} (h:ka M l) (hi:i<l.length):ka M (List.set l i ((l.getD i aT).1,((l.getD i aT).2.1,v))):=by
 refine⟨by rw[List.length_set];exact h.1,fun x hx=> ?_⟩
 rcases List.mem_or_eq_of_mem_set hx with hx |rfl
 ·exact h.2 x hx
 ·have:=h.2 (l.getD i aT) (by rw[au _ _ hi];exact List.getElem_mem hi)
  exact this
theorem TY {N M:Nat} {l:List cJ} {a b c:Int} (h:ka M l) (hM:M≤200) (hN:400<N):De M (S82 N l a b c):=by
 have hl:=h.1
 have d4:decide ((List.length ([]:(List cJ))+List.length l)*3≤4398046511104)=true:=decide_eq_true (by simp only[List.length_nil];omega)
 have eA:∀ kf,YO N l kf=kf (bif allI (ptP l) l 0 then decide ((List.length l:Int)≤(30:Int)) else false):=fun kf=>Dd (by omega) (by omega)
 have key:∀ (d i n:Nat),i+d=l.length→d<n→De M fun kf=>lX N l a b c l n (kf l false) kf (i:Int):=by
  intro d
  induction d with
  |zero=>
   intro i n hi hn
   obtain⟨n,rfl⟩:∃ j,n=j+1:=⟨n - 1,by omega⟩
   simp only[lX]
   rw[decide_eq_false (by omega)]
   exact vB h
  |succ d ih=>
   intro i n hi hn
   obtain⟨n,rfl⟩:∃ j,n=j+1:=⟨n - 1,by omega⟩
   have cI:i<l.length:=by omega
   have h0:=ih (i+1) n (by omega) (by omega)
   have hw:IntKind.wrap .i64 ((i:Int)+(1:Int))=((i+1:Nat):Int):=by rw[wrap64 (by omega) (by omega)];omega
   have mP:=fun o=>vB (o:=o) (XG (v:=c) h cI)
   have Rx:=vB (o:=false) h
   simp only[lX,eA,lY,K1,K2,aM cI,cond_true,hw,Int.toNat_natCast]
   rw[decide_eq_true (by omega)]
   simp only[cond_true]
   repeat' first |exact h0 |exact mP _ |exact Rx |apply TX
 obtain⟨r,o,h1,h2⟩:=key l.length 0 N (by omega) (by omega)
 refine⟨r,o,h1,fun kf=> ?_⟩
 unfold S82
 rw[d4]
 exact h2 kf
theorem TZ {N:Nat} (hN:400<N):∀ (k n M:Nat) (c:qU) (l:List cJ),dy c→ka M l→M+k≤50→k<n→∃ r:List cJ,∃ c':qU,dy c'∧ka (M+k) r∧∀ kf,vk N n kf c l (k:Int)=kf c' r
 |0,n,M,c,l,hc,hl,hM,hn=>by
  obtain⟨n,rfl⟩:∃ j,n=j+1:=⟨n - 1,by omega⟩
  refine⟨l,c,hc,hl,fun kf=> ?_⟩
  unfold vk
  rw[decide_eq_false (by omega)]
  rfl
 |k+1,n,M,c,l,hc,hl,hM,hn=>by
  obtain⟨n,rfl⟩:∃ j,n=j+1:=⟨n - 1,by omega⟩
  obtain⟨v1,c1,iu,q1,e1⟩:=below (N:=N) (n:=6) (by omega) (by omega) hc
  obtain⟨v2,c2,gp,q2,e2⟩:=below (N:=N) (n:=2) (by omega) (by omega) iu
  obtain⟨r,o,hr,er⟩:=TW (N:=N) (a:=IntKind.wrap .i64 ((1:Int)+v1)) (b:=IntKind.wrap .i64 ((1:Int)+v2)) hl (by omega) (by omega) (by rw[wrap64 (by omega) (by omega)];omega) (by rw[wrap64 (by omega) (by omega)];omega)
  obtain⟨v3,c3,nL,q3,e3⟩:=below (N:=N) (n:=6) (by omega) (by omega) gp
  obtain⟨v4,c4,pd,q4,e4⟩:=below (N:=N) (n:=2) (by omega) (by omega) nL
  obtain⟨v5,c5,TT,q5,e5⟩:=below (N:=N) (n:=4) (by omega) (by omega) pd
  obtain⟨r2,o2,GQ,er2⟩:=TY (N:=N) (a:=IntKind.wrap .i64 ((1:Int)+v3)) (b:=IntKind.wrap .i64 ((1:Int)+v4)) (c:=IntKind.wrap .i64 ((1:Int)+v5)) hr (by omega) hN
  obtain⟨r3,c6,hc6,hr3,e6⟩:=TZ hN k n (M+1) c5 r2 TT GQ (by omega) (by omega)
  refine⟨r3,c6,hc6,by rw[show M+(k+1)=M+1+k by omega];exact hr3,fun kf=> ?_⟩
  unfold vk
  rw[decide_eq_true (by omega),cond_true]
  simp only[e1,e2,er,e3,e4,e5,er2]
  rw[wrap64 (n:=((k+1:Nat):Int) - 1) (by omega) (by omega),show(((k+1:Nat):Int) - 1)=(k:Int) by omega]
  exact e6 kf
theorem B7 {N:Nat} (hN:400<N):nK (S63 N) (ka 9):=fun c hc=>by
 obtain⟨v,c1,iu,hv,e1⟩:=below (N:=N) (n:=10) (by omega) (by omega) hc
 obtain⟨k,rfl⟩:∃ k:Nat,v=(k:Int):=⟨v.toNat,by omega⟩
 obtain⟨r,c2,gp,hr,e2⟩:=TZ hN k N 0 c1 [] iu ⟨by simp,fun x hx=>by cases hx⟩ (by omega) (by omega)
 refine⟨r,c2,gp,⟨by have:=hr.1;omega,hr.2⟩,fun kf=> ?_⟩
 unfold S63
 rw[e1]
 exact e2 _
theorem Eo {M:Nat} {l:List cJ} {i:Nat} {y:cJ} (h:ka M l) (hy:XF y):ka M (List.set l i y):=by
 refine⟨by rw[List.length_set];exact h.1,fun x hx=> ?_⟩
 rcases List.mem_or_eq_of_mem_set hx with hx |rfl
 ·exact h.2 x hx
 ·exact hy
theorem Ep {N:Nat} (hN:400<N):nK (S37 N) (ka 9):=fun c hc=>by
 obtain⟨l,c1,iu,hl,e1⟩:=B7 hN c hc
 have hlen:=hl.1
 unfold S37
 simp only[e1]
 by_cases h0:(List.length l:Int)>0
 rotate_left
 ·rw[decide_eq_false h0]
  exact⟨l,c1,iu,hl,fun kf=>rfl⟩
 rw[decide_eq_true h0]
 obtain⟨i,c2,gp,hi,e2⟩:=below (N:=N) (n:=(l.length:Int)) (by omega) (by omega) iu
 obtain⟨k,rfl⟩:∃ k:Nat,i=(k:Int):=⟨i.toNat,by omega⟩
 have hk:k<l.length:=by omega
 obtain⟨w,c3,nL,hw,e3⟩:=below (N:=N) (n:=12) (by omega) (by omega) gp
 have hx:XF (l.getD k aT):=hl.2 _ (by rw[au _ _ hk];exact List.getElem_mem hk)
 simp only[cond_true,e2,e3,aM hk,Int.toNat_natCast]
 cases w==0
 rotate_left
 ·obtain⟨v,c4,pd,hv,e4⟩:=oneOf (N:=N) (l:=[(0:Int),(1:Int),(99:Int),(100:Int)]) (by simp) (by simp) nL
  refine⟨_,c4,pd, ?_,fun kf=>by simp only[cond_true,e4];rfl⟩
  exact Eo hl ⟨by simp at hv;omega,by simp at hv;omega,hx.2.2⟩
 cases w==1
 rotate_left
 ·obtain⟨v,c4,pd,hv,e4⟩:=oneOf (N:=N) (l:=[(0:Int),(2:Int),(3:Int)]) (by simp) (by simp) nL
  refine⟨_,c4,pd, ?_,fun kf=>by simp only[cond_true,cond_false,e4];rfl⟩
  exact Eo hl ⟨hx.1,hx.2.1,by show -1000≤v;simp at hv;omega,by show v≤1000;simp at hv;omega⟩
 cases w==2
 rotate_left
 ·obtain⟨v,c4,pd,hv,e4⟩:=oneOf (N:=N) (l:=[(-1:Int),(4:Int),(5:Int)]) (by simp) (by simp) nL
  refine⟨_,c4,pd, ?_,fun kf=>by simp only[cond_true,cond_false,e4];rfl⟩
  exact Eo hl hx
 ·exact⟨l,c3,nL,hl,fun kf=>by simp only[cond_false]⟩
end Go.Pv.R
namespace Go.Pv.R
set_option linter.unusedVariables false
set_option linter.unusedSimpArgs false
end Go.Pv.R
namespace Go.Pv.R
set_option linter.unusedVariables false
set_option linter.unusedSimpArgs false
def dY (c:UInt8) (s:ByteArray):Nat:=s.data.toList.count c
theorem oK (c:UInt8) (a b:ByteArray):dY c (a++b)=dY c a+dY c b:=by
 unfold dY
 rw[uh,List.count_append]
theorem Es:∀ (n u:Nat),u<n→∀ b∈Lib.decDigits u,48≤b.toNat∧b.toNat≤57
 |0,u,h=>by omega
 |n+1,u,h=>by
  intro b hb
  rw[Lib.decDigits] at hb
  have hd:∀ k,k<10→48≤(UInt8.ofNat (48+k)).toNat∧(UInt8.ofNat (48+k)).toNat≤57:=fun k hk=>by
   have:(UInt8.ofNat (48+k)).toNat=(48+k)%256:=rfl
   omega
  split at hb
  ·rw[List.mem_singleton.1 hb]
   exact hd u (by assumption)
  ·rcases List.mem_append.1 hb with hb |hb
   ·exact Es n (u/10) (by omega) b hb
   ·rw[List.mem_singleton.1 hb]
    exact hd _ (by omega)
theorem XH {n:Int} {b:UInt8} (h:b∈(dd n).data.toList):b=45∨(48≤b.toNat∧b.toNat≤57):=by
 have h:b∈Lib.itoa n:=by simpa[dd] using h
 unfold Lib.itoa at h
 split at h
 ·rcases List.mem_cons.1 h with h |h
  ·exact .inl h
  ·exact .inr (Es _ _ (Nat.lt_succ_self _) b h)
 ·exact .inr (Es _ _ (Nat.lt_succ_self _) b h)
theorem AD {c:UInt8} (n:Int) (h:c≠45) (h2: ¬(48≤c.toNat∧c.toNat≤57)):dY c (dd n)=0:=by
 unfold dY
 rw[List.count_eq_zero]
 intro hc
 rcases XH hc with e |e
 ·exact h e
 ·exact h2 e
theorem qy {s:ByteArray} {c:UInt8} {k:Int→Option af} {f:Nat→Int→Int→Option af} (hs:s.size≤1000000)
  (hf:∀ n v i,f (n+1) v i=bif (decide (i<(ByteArray.size s:Int))) then bif (bw i (ByteArray.size s)) then bif ((bt s i)==(c.toNat:Int)) then f n (IntKind.wrap .i64 (v+(1:Int))) (IntKind.wrap .i64 (i+(1:Int))) else f n v (IntKind.wrap .i64 (i+(1:Int))) else none else k v):
  ∀ (r:List UInt8) (i n v:Nat),s.data.toList.drop i=r→r.length<n→v≤i→f n (v:Int) (i:Int)=k ((v+r.count c:Nat):Int)
 |[],i,n,v,hd,hn,hv=>by
  obtain⟨n,rfl⟩:∃ j,n=j+1:=⟨n - 1,by simp only[List.length_nil] at hn;omega⟩
  have iD:s.data.toList.length=s.size:=(Lib.size_eq s).symm
  have jc:s.size≤i:=by have:=congrArg List.length hd;simp only[List.length_drop,List.length_nil] at this;omega
  rw[hf,decide_eq_false (by omega),cond_false]
  rfl
 |b::r,i,n,v,hd,hn,hv=>by
  obtain⟨n,rfl⟩:∃ j,n=j+1:=⟨n - 1,by omega⟩
  obtain⟨h1,h2,h3⟩:=XA hd
  simp only[List.length_cons] at hn
  have hw1:IntKind.wrap .i64 ((v:Int)+(1:Int))=((v+1:Nat):Int):=by rw[wrap64 (by omega) (by omega)];omega
  have xw:IntKind.wrap .i64 ((i:Int)+(1:Int))=((i+1:Nat):Int):=by rw[wrap64 (by omega) (by omega)];omega
  rw[hf,decide_eq_true (by omega),cond_true,aM h1,cond_true,h2,hw1,xw]
  by_cases hb:b=c
  ·subst hb
   rw[beq_self_eq_true,cond_true,qy hs hf r (i+1) n (v+1) h3 (by omega) (by omega),List.count_cons_self]
   congr 2
   omega
  ·have hbe:(((b.toNat:Int))==(c.toNat:Int))=false:=beq_eq_false_iff_ne.2 fun e=>hb (UInt8.toNat_inj.1 (by omega))
   rw[hbe,cond_false,qy hs hf r (i+1) n v h3 (by omega) (by omega),List.count_cons_of_ne hb]
theorem HO (c:UInt8) (sep:ByteArray):∀ (r:List ByteArray) (m:Nat),(∀ y∈r,dY c y=m)→dY c (rE sep r)=(dY c sep+m)*r.length
 |[],m,_=>rfl
 |x::r,m,h=>by
  have ih:=HO c sep r m (fun y hy=>h y (by simp[hy]))
  have hx:=h x (by simp)
  have e:rE sep (x::r)=(sep++x)++rE sep r:=by
   apply Xs
   simp only[uh,rE,Lib.joinTail,List.map_cons,List.flatten_cons,List.append_assoc]
  rw[e,oK,oK,List.length_cons,Nat.mul_succ]
  omega
theorem HP {c:UInt8} {x:ByteArray} {r:List ByteArray} {m:Nat} (h:∀ y∈x::r,dY c y=m):dY c (gA (x::r))=m+(dY c ju+m)*r.length:=by
 show dY c (jU (x::r) ju)=_
 rw[sU,oK,HO c _ r m fun y hy=>h y (by simp[hy]),h x (by simp)]
theorem Df {c:UInt8} {l:List ByteArray} (h:∀ y∈l,dY c y=1) (h0:dY c ju=0) (h1:dY c cY=0):dY c (gA l)=l.length:=by
 cases l with
 |nil=>exact h1
 |cons x r=>rw[HP h,h0,List.length_cons];omega
theorem l6 {α β:Type} {f:Nat→α→β}:∀ (l:List α) (i:Nat),(cb (fun _ _=>true) f l i).length=l.length
 |[],_=>rfl
 |x::r,i=>by
  show(f i x::cb (fun _ _=>true) f r (i+1)).length=_
  rw[List.length_cons,l6 r (i+1),List.length_cons]
theorem PN (x:az):dY 61 (C3 x)=1:=by
 have hi:∀ n,dY 61 (dd n)=0:=fun n=>AD n (by decide) (by decide)
 have c1:dY 61 dU=0:=rfl
 have c2:dY 61 jW=0:=rfl
 have c3:dY 61 oY=1:=rfl
 unfold C3
 simp only[oK,hi,c1,c2,c3]
theorem PO (s:List Int) (i:Nat) (x:cN):dY 64 (C4 s i x)=1:=by
 have hi:∀ n,dY 64 (dd n)=0:=fun n=>AD n (by decide) (by decide)
 have c1:dY 64 cY=0:=rfl
 have c2:dY 64 jY=1:=rfl
 have c3:dY 64 (Ah s i)=0:=by
  unfold Ah
  cases decide (i<s.length) with
  |true=>exact hi _
  |false=>rfl
 unfold C4
 simp only[oK,hi,c1,c2,c3]
theorem PQ (x:cJ):1≤dY 58 (qp (fR x))+dY 63 (qp (fR x)):=by
 unfold qp
 cases hq:(ByteArray.toList (fR x)==ByteArray.toList RE) with
 |true=>exact(by decide:1≤dY 58 jX+dY 63 jX)
 |false=>
  rw[cond_false]
  unfold fR at hq ⊢
  cases hb:(ic x.2.1 1 2&&ic x.2.2 0 4) with
  |false=>rw[hb] at hq;simp at hq
  |true=>
   rw[cond_true]
   have c1:dY 58 dU=1:=rfl
   simp only[oK,c1]
   omega
theorem HQ {l:List cJ}:(ByteArray.toList (gA (kr l))==ByteArray.toList cY)=((List.length l:Int)==(0:Int)):=by
 cases l with
 |nil=>simp[kr,cb,gA]
 |cons x r=>
  have h1:((List.length (x::r):Int)==(0:Int))=false:=beq_eq_false_iff_ne.2 (by simp only[List.length_cons];omega)
  rw[h1]
  cases hq:(ByteArray.toList (gA (kr (x::r)))==ByteArray.toList cY) with
  |false=>rfl
  |true=>
   exfalso
   have e:=XB.1 hq
   have e0:kr (x::r)=qp (fR x)::cb (fun _ _=>true) (fun _ x=>qp (fR x)) r 1:=rfl
   rw[e0] at e
   have e:jU (qp (fR x)::cb (fun _ _=>true) (fun _ x=>qp (fR x)) r 1) ju=cY:=e
   rw[sU] at e
   have h2:=congrArg (dY 58) e
   have h3:=congrArg (dY 63) e
   rw[oK] at h2 h3
   have c1:dY 58 cY=0:=rfl
   have c2:dY 63 cY=0:=rfl
   have:=PQ x
   omega
theorem HR {a b c d e f:Int}:dY 32 (gA (wj [a,b,c,d,e,f]))=5:=by
 have hi:∀ n,dY 32 (dd n)=0:=fun n=>AD n (by decide) (by decide)
 have e0:wj [a,b,c,d,e,f]=[dd a,dd b,dd c,dd d,dd e,dd f]:=rfl
 have c1:dY 32 ju=1:=rfl
 rw[e0,HP (m:=0) (fun y hy=>by
  simp only[List.mem_cons,List.not_mem_nil,or_false] at hy
  rcases hy with rfl |rfl |rfl |rfl |rfl |rfl<;>exact hi _),c1]
 rfl
theorem join_le {l:List ByteArray} (h:∀ y∈l,y.size≤200) (hl:l.length≤1000):(gA l).size≤300000:=by
 cases l with
 |nil=>show cY.size≤300000;have:cY.size=1:=rfl;omega
 |cons x r=>
  have h1:=Ae (sep:=ju) h
  have h2:ju.size=1:=rfl
  show(jU (x::r) ju).size≤300000
  have:(ju.size+200)*(x::r).length≤(ju.size+200)*1000:=Nat.mul_le_mul_left _ hl
  omega
theorem Et {N:Nat} {a:List Int} (ha:a.length≤1048576) (hN:4000<N):∃ l:List az,(l.length≤6∧∀ x∈l,Ea x)∧∀ kf,S5 N a kf=kf l:=by
 obtain⟨c,hc,e1⟩:=uq (N:=N) ha (by omega)
 obtain⟨l,c1,_,⟨_,h2,h3⟩,e2⟩:=uu (N:=N) (by omega) c hc
 refine⟨l,⟨h2,fun x hx=> ?_⟩,fun kf=>by unfold S5 S14;rw[e1,e2]⟩
 obtain⟨q1,q2,q3,q4,q5,q6,q7⟩:=h3 x hx
 exact⟨by unfold kE;omega,by unfold kE;omega,by unfold kE;have:x.2.2.2.2.2.length≤7:=q1;omega,by unfold kE;omega⟩
theorem Lo {c:aU} (h:Good c):c.2.2.1.length≤100∧(∀ x∈c.2.2.1,kE x.1∧kE x.2)∧∀ x∈c.2.2.2.1,kE x:=by
 have hc:=qT h.cl
 have hs:=qv h.cl
 rcases hc.ro with h0 |⟨hr,hse⟩
 ·have h1:c.2.2.1=[]:=List.length_eq_zero_iff.1 h0
  have h2:c.2.2.2.1=[]:=List.length_eq_zero_iff.1 (by rw[hc.sl,h0])
  refine⟨by omega,fun x hx=> ?_,fun x hx=> ?_⟩
  ·rw[h1] at hx;cases hx
  ·rw[h2] at hx;cases hx
 have hid:∀ id,id∈iq c.1→kE id:=fun id hid=>by
  obtain⟨x,hx,rfl⟩:=List.mem_map.1 hid
  have ht:=hc.t
  unfold aD at ht
  simp only[Bool.and_eq_true] at ht
  obtain⟨i,hi,rfl⟩:=List.mem_iff_getElem.1 hx
  have:=dS.1 ht.2.1 i hi
  unfold j9 at this
  simp only[Bool.and_eq_true,jg] at this
  unfold kE
  have:=this.1
  omega
 unfold fP at hr
 simp only[Bool.and_eq_true] at hr
 have Dn:=List.all_eq_true.1 hr.1
 refine⟨?_,fun x hx=> ?_,fun x hx=> ?_⟩
 ·have:=hs.Wj
  omega
 ·obtain⟨_,h1,h2,_⟩:=fQ (Dn x hx)
  exact⟨hid _ h1,hid _ h2⟩
 ·unfold ek at hse
  simp only[Bool.and_eq_true,decide_eq_true_eq] at hse
  obtain⟨hl,hj,hp⟩:=hse
  obtain⟨i,hi,rfl⟩:=List.mem_iff_getElem.1 hx
  have:=dS.1 hp i (by omega)
  unfold zX at this
  simp only[Nat.zero_add,Bool.and_eq_true,decide_eq_true_eq,au _ _ hi] at this
  obtain⟨k,hk,_,h1,_⟩:=cp (p:=fun x:bu=>x.1==c.2.2.2.1[i]) (l:=c.2.1) (by have:=this.1;unfold eC at this;omega)
  unfold cX at hj
  simp only[Bool.and_eq_true] at hj
  have Cz:=dS.1 hj.2 k hk
  unfold sT at Cz
  simp only[Bool.and_eq_true,jg] at Cz
  have h1:(c.2.1[k]).1=c.2.2.2.1[i]:=by simpa using h1
  unfold kE
  have:=Cz.1
  omega
theorem Eu {N:Nat} {a:List Int} (ha:a.length≤1048576) (hN:4000<N):∃ (r:List cN) (s:List Int),(r.length≤100∧(∀ x∈r,kE x.1∧kE x.2)∧∀ x∈s,kE x)∧∀ kf,S7 N a kf=kf r s:=by
 obtain⟨c,hc,e1⟩:=uq (N:=N) ha (by omega)
 obtain⟨v,c1,iu,hv,e2⟩:=B5 (N:=N) (by omega) c hc
 obtain⟨b,c2,_,e3⟩:=once (N:=N) (n:=3) (by omega) (by omega) iu
 obtain⟨g1,g2,g3⟩:=Lo hv
 cases b with
 |true=>exact⟨v.2.2.1,[],⟨g1,g2,fun x hx=>by cases hx⟩,fun kf=>by unfold S7;rw[e1,e2,e3];rfl⟩
 |false=>exact⟨v.2.2.1,v.2.2.2.1,⟨g1,g2,g3⟩,fun kf=>by unfold S7;rw[e1,e2,e3];rfl⟩
theorem Lp {N:Nat} {a:List Int} (ha:a.length≤1048576) (hN:4000<N):∃ l:List cJ,ka 9 l∧∀ kf,S11 N a kf=kf l:=by
 obtain⟨c,hc,e1⟩:=uq (N:=N) ha (by omega)
 obtain⟨l,c1,_,hl,e2⟩:=Ep (N:=N) (by omega) c hc
 exact⟨l,hl,fun kf=>by unfold S11 S22;rw[e1,e2]⟩
theorem Lq (a:List Int) (h:wfs [.sl (.int .u8)] (a,())):∃ N,∀ kf,L3 N a kf=kf true:=by
 obtain⟨N,hN⟩:∃ N:Nat,N=500000:=⟨_,rfl⟩
 refine⟨N,fun kf=> ?_⟩
 by_cases hb:(List.length a:Int)>1048576
 ·unfold L3 Xj L4
  rw[decide_eq_true hb];rfl
 have ha:a.length≤1048576:=by omega
 have ajO:∀ k:Bool→Option af,L4 N a k=k false:=fun k=>by
  unfold L4
  rw[decide_eq_false hb]
 have L7:∀ (l:List az) (s:ByteArray) (k:Int→Option af),s.size≤300000→wh a l s N k (0:Int) (0:Int)=k ((dY 61 s:Nat):Int):=fun l s k hs=>by
  have iD:s.data.toList.length=s.size:=(Lib.size_eq s).symm
  have:=qy (s:=s) (c:=61) (k:=k) (f:=fun n v i=>wh a l s n k v i) (by omega) (fun n v i=>by simp only[wh];rfl) s.data.toList 0 N 0 rfl (by omega) (Nat.le_refl _)
  rw[Nat.zero_add] at this
  exact this
 have L15:∀ (l:List az) (x:Int) (r:List cN) (s:ByteArray) (k:Int→Option af),s.size≤300000→qg a l x r s N k (0:Int) (0:Int)=k ((dY 64 s:Nat):Int):=fun l x r s k hs=>by
  have iD:s.data.toList.length=s.size:=(Lib.size_eq s).symm
  have:=qy (s:=s) (c:=64) (k:=k) (f:=fun n v i=>qg a l x r s n k v i) (by omega) (fun n v i=>by simp only[qg];rfl) s.data.toList 0 N 0 rfl (by omega) (Nat.le_refl _)
  rw[Nat.zero_add] at this
  exact this
 have L22:∀ (l:List az) (x:Int) (r:List cN) (y:Int) (s:ByteArray) (k:Int→Option af),s.size≤300000→qh a l x r y s N k (0:Int) (0:Int)=k ((dY 32 s:Nat):Int):=fun l x r y s k hs=>by
  have iD:s.data.toList.length=s.size:=(Lib.size_eq s).symm
  have:=qy (s:=s) (c:=32) (k:=k) (f:=fun n v i=>qh a l x r y s n k v i) (by omega) (fun n v i=>by simp only[qh];rfl) s.data.toList 0 N 0 rfl (by omega) (Nat.le_refl _)
  rw[Nat.zero_add] at this
  exact this
 obtain⟨l,⟨hl,ht⟩,e1⟩:=Et (N:=N) ha (by omega)
 obtain⟨r,s,⟨hr,hp,hs⟩,e2⟩:=Eu (N:=N) ha (by omega)
 obtain⟨c,hc,e3⟩:=B6 (N:=N) ha (by omega)
 obtain⟨p,hpt,e4⟩:=Lp (N:=N) ha (by omega)
 have hO:=TU hc (N:=N) (by omega)
 have ajT:=hpt.1
 have f1:∀ k,I6 N l k=k (gA (qo l)):=fun k=>aip ht (by omega) (by omega)
 have f2:∀ k,I8 N r s k=k (gA (qq s r)):=fun k=>aiq hs hp (by omega) (by omega)
 have hwl:=vn c
 have hi:∀ x∈[(List.length c.1:Int),(List.length c.2.1:Int),(List.length c.2.2.1:Int),(List.length (bc c):Int),c.2.2.2.2.2.2,(List.length c.2.2.2.2.2.1:Int)],kE x:=fun x hx=>by
  have h1:=hc.t;have h2:=hc.j;have h3:=hc.r;have h4:=hc.b;have h5:=hc.m
  simp only[List.mem_cons,List.not_mem_nil,or_false] at hx
  rcases hx with rfl |rfl |rfl |rfl |rfl |rfl
  ·unfold kE;omega
  ·unfold kE;omega
  ·unfold kE;omega
  ·unfold kE;omega
  ·exact hc.pl
  ·unfold kE;omega
 have f3:∀ k,I9 N c k=k (gA (wj [(List.length c.1:Int),(List.length c.2.1:Int),(List.length c.2.2.1:Int),(List.length (bc c):Int),c.2.2.2.2.2.2,(List.length c.2.2.2.2.2.1:Int)])):=fun k=>by
  unfold I9
  rw[acr hO,Tv hi (by simp) (by simp;omega)]
 have f4:∀ k,I12 N [] k=k cY:=fun k=>Tv (fun x hx=>by cases hx) (by simp) (by simp;omega)
 have f5:∀ k,I13 N p k=k (gA (kr p)):=fun k=>acz (fun x hx=>by
  have:=hpt.2 x hx
  unfold XF at this
  exact⟨by unfold kE;omega,by unfold kE;omega⟩) (by omega) (by omega)
 have z1:(gA (qo l)).size≤300000:=join_le (fun y hy=>by obtain⟨j,x,hx,rfl⟩:=dX hy;exact Ag (ht x hx)) (by unfold qo;rw[l6];omega)
 have z2:(gA (qq s r)).size≤300000:=join_le (C5 hs hp).1 (by unfold qq;rw[l6];omega)
 have z3:=join_le (Af hi (by simp)).1 (by simp[wj,cb])
 have n1:dY 61 (gA (qo l))=l.length:=by
  rw[Df (fun y hy=>by obtain⟨j,x,hx,rfl⟩:=dX hy;exact PN x) rfl rfl]
  exact l6 l 0
 have n2:dY 64 (gA (qq s r))=r.length:=by
  rw[Df (fun y hy=>by obtain⟨j,x,hx,rfl⟩:=dX hy;exact PO s _ x) rfl rfl]
  exact l6 r 0
 unfold L3 Xj
 have e3':∀ k,S10 N a k=k c:=e3
 simp only[ajO,cond_false,e1,f1,L7 _ _ _ z1,e2,f2,L15 _ _ _ _ _ z2,e3',f3,L22 _ _ _ _ _ _ z3,e4,n1,n2,HR,f4,f5,beq_self_eq_true,cond_true,HQ]
 rfl
end Go.Pv.R
