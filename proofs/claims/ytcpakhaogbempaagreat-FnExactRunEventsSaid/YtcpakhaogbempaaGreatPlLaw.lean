/- The law over the plain functions. -/
import Derived.Test.YtcpakhaogbempaaGreatPlHz
namespace Go.Pv.R
set_option linter.unusedVariables false
set_option linter.unusedSimpArgs false
end Go.Pv.R
namespace Go.Pv.R
set_option linter.unusedVariables false
set_option linter.unusedSimpArgs false
theorem lA {N:Nat} {a b c:Int} {kf:Bool→Option aa}:gy N a b c kf=kf (gO a b c):=by
 unfold gy gO
 by_cases h:b≤a<;>simp[h]
theorem ni {N:Nat} {a b c:Int} {kf:Bool→Option aa}:eF N a b c kf=kf (gO a b c):=by
 unfold eF gO
 by_cases h:b≤a<;>simp[h]
theorem N' {left:Int} {s:Nat} {A B:Option aa} (h0:0≤left) (h:(s:Int)≤left→B=A):(bif decide (j0 left s<0) then A else B)=A:=by
 by_cases hn:j0 left s<0
 ·rw[decide_eq_true hn];rfl
 ·rw[decide_eq_false hn,cond_false]
  exact h (by have:=(W7 (s:=s) h0);omega)
end Go.Pv.R
namespace Go.Pv.R
set_option linter.unusedVariables false
set_option linter.unusedSimpArgs false
theorem Ig (a:Int):(a.tmod 2147483647=a%2147483647∧0≤a)∨(a.tmod 2147483647=-((-a)%2147483647)∧a<0):=by
 rcases Int.lt_or_le a 0 with h |h
 ·right
  refine⟨?_,h⟩
  have h1:(-a).tmod 2147483647=(-a)%2147483647:=Int.tmod_eq_emod_of_nonneg (by omega)
  rw[Int.neg_tmod] at h1
  omega
 ·exact .inl ⟨Int.tmod_eq_emod_of_nonneg h,h⟩
theorem alV {N:Nat} {a:Int} {kf:Int→Option aa}:aeX N a 2147483647 kf=kf (a%2147483647):=by
 unfold aeX
 rw[lA,show gO 2147483647 1 1000000000000=true from by decide]
 have e:(decide ((2147483647:Int)=0))=false:=by decide
 simp only[Bool.not_true,cond_false,e,Bool.not_false,cond_true]
 congr 1
 rcases Ig a with⟨h,h'⟩ |⟨h,h'⟩<;>rw[h,wrap64 (by omega) (by omega),Int.tmod_eq_emod_of_nonneg (by omega)]<;>omega
theorem alW {N:Nat} {a:Int} {kf:Int→Option aa}:akK N a 2147483647 kf=kf (a%2147483647):=by
 unfold akK
 rw[ni,show gO 2147483647 1 1000000000000=true from by decide]
 have e:(decide ((2147483647:Int)=0))=false:=by decide
 simp only[Bool.not_true,cond_false,e,Bool.not_false,cond_true]
 rcases Ig a with⟨h,h'⟩ |⟨h,h'⟩<;>rw[h]
 ·rw[decide_eq_false (by omega),cond_false]
 ·by_cases hz: -((-a)%2147483647)<0
  ·rw[decide_eq_true hz,cond_true,wrap64 (by omega) (by omega)]
   congr 1
   omega
  ·rw[decide_eq_false hz,cond_false]
   congr 1
   omega
def foldM (i:Nat) (x s:Int):Int:=Int.tmod (IntKind.wrap .i64 ((IntKind.wrap .i64 ((IntKind.wrap .i64 (s*(1000003:Int)))+x%2147483647))+(13:Int))) (2147483647:Int)
def afK (l:List Int):Int:=foldI foldM l 0 11
theorem alX {N:Nat} {l:List Int} {kf:Int→Option aa} (hl:l.length≤maxLen) (hN:l.length<N):ak' N l kf=kf (afK l):=by
 unfold ak'
 rw[abo hl hN,AD foldM (fun i x s next h e=>by rw[alV];rfl)]
 rfl
theorem alY {N:Nat} {l:List Int} {kf:Int→Option aa} (hl:l.length≤maxLen) (hN:l.length<N):akM N l kf=kf (afK l):=by
 unfold akM
 rw[aa4 hl hN,AD foldM (fun i x s next h e=>by unfold akL;rw[alW];rfl)]
 rfl
def CM (s:Int) (x:QL):Int:=afK [s,x.1,x.2.1,x.2.2.1]
theorem Xn {N:Nat} {s:Int} {x:QL} {kf:Int→Option aa} (hN:4<N):Ta N s x kf=kf (CM s x):=by
 unfold Ta
 rw[alX (by rw[ar];simp) (by simpa using hN)]
 rfl
theorem Xo {N:Nat} {s:Int} {x:QL} {kf:Int→Option aa} (hN:4<N):Sz N s x kf=kf (CM s x):=by
 unfold Sz
 rw[alY (by rw[ar];simp) (by simpa using hN)]
 rfl
def Oa:List QL→Nat→Int→Bool
 |[],_,_=>true
 |x::r,i,s=>(x.1==((i+1:Nat):Int))&&gO x.2.1 1 9&&gO x.2.2.1 0 99&&(x.2.2.2==CM s x)&&Oa r (i+1) x.2.2.2
def hZ (l:List QL):Bool:=decide (l.length≤200)&&Oa l 0 0
theorem Xp {N:Nat} {l:List QL} {kf:Bool→Option aa} (hl:l.length≤maxLen) (hN:l.length<N) (h4:4<N):aeZ N l kf=kf (hZ l):=by
 unfold aeZ
 rw[abp hl hN]
 by_cases hc:l.length≤200
 ·have h1:(decide ((l.length:Int)≤200))=true:=decide_eq_true (by omega)
  have key:∀ (r:List QL) (i:Nat) (s:Int),l.drop i=r→bQ (fun(i:Nat) (x:QL) (ao:Int) (next:Int→Option aa)=>
    bif (decide ((List.length l:Int)≤(200:Int))) then
     Ta N ao x (fun(gB:Int)=>
      bif (x.1 != (IntKind.wrap .i64 ((i:Int)+(1:Int)))) then kf false
      else
       gy N x.2.1 (1:Int) (9:Int) (fun(NY:Bool)=>
        bif (!NY) then kf false
        else
         gy N x.2.2.1 (0:Int) (99:Int) (fun(NZ:Bool)=>
          bif (!NZ) then kf false
          else
           bif (x.2.2.2 != gB) then kf false
           else next gB)))
    else kf (decide ((List.length l:Int)≤(200:Int)))) (fun(ao:Int)=>kf (decide ((List.length l:Int)≤(200:Int)))) r i s=kf (Oa r i s):=by
   intro r
   induction r with
   |nil=>intro i s _;simp only[bQ,Oa,h1]
   |cons x r ih=>
    intro i s hd
    have cR:i<l.length:=by have:=congrArg List.length hd;simp at this;omega
    rw[List.drop_eq_getElem_cons cR] at hd
    injection hd with e1 e2
    simp only[bQ,Oa]
    simp only[ih (i+1) _ e2]
    simp only[h1,cond_true,Xn h4,lA,fH cR hl]
    cases hx:(x.1==((i+1:Nat):Int)) with
    |false=>simp only[bne,hx,Bool.not_false,cond_true,Bool.false_and]
    |true=>
     simp only[bne,hx,Bool.not_true,cond_false,Bool.true_and]
     cases gO x.2.1 1 9<;>simp
     cases gO x.2.2.1 0 99<;>simp
     by_cases hs:x.2.2.2=CM s x
     ·simp[hs]
     ·have:(x.2.2.2==CM s x)=false:=by simpa using hs
      simp[this]
  refine Eq.trans (key l 0 0 rfl) ?_
  unfold hZ
  simp[hc]
 ·have h1:(decide ((l.length:Int)≤200))=false:=decide_eq_false (by omega)
  cases l with
  |nil=>simp at hc
  |cons x r=>
   simp only[bQ,h1,cond_false]
   unfold hZ
   rw[decide_eq_false hc]
   rfl
theorem afL {N:Nat} {l:List QL} {kf:Bool→Option aa} (hl:l.length≤maxLen) (hN:l.length<N) (h4:4<N):I75 N l kf=kf (hZ l):=by
 unfold I75
 by_cases hc:l.length≤200
 ·have h1:(decide ((l.length:Int)>200))=false:=decide_eq_false (by omega)
  rw[h1,cond_false,afj hl hN]
  have key:∀ (r:List QL) (i:Nat) (s:Int),l.drop i=r→bQ (fun(i:Nat) (x:QL) (bG:Int) (next:Int→Option aa)=>
    bif (x.1 != (IntKind.wrap .i64 ((i:Int)+(1:Int)))) then kf false
    else
     eF N x.2.1 (1:Int) (9:Int) (fun(xx:Bool)=>
      bif (!xx) then kf false
      else
       eF N x.2.2.1 (0:Int) (99:Int) (fun(NH:Bool)=>
        bif (!NH) then kf false
        else
         Sz N bG x (fun(NI:Int)=>
          bif (x.2.2.2 != NI) then kf false
          else next x.2.2.2)))) (fun(bG:Int)=>kf true) r i s=kf (Oa r i s):=by
   intro r
   induction r with
   |nil=>intro i s _;simp only[bQ,Oa]
   |cons x r ih=>
    intro i s hd
    have cR:i<l.length:=by have:=congrArg List.length hd;simp at this;omega
    rw[List.drop_eq_getElem_cons cR] at hd
    injection hd with e1 e2
    simp only[bQ,Oa]
    simp only[ih (i+1) _ e2]
    simp only[Xo h4,ni,fH cR hl]
    cases hx:(x.1==((i+1:Nat):Int)) with
    |false=>simp only[bne,hx,Bool.not_false,cond_true,Bool.false_and]
    |true=>
     simp only[bne,hx,Bool.not_true,cond_false,Bool.true_and]
     cases gO x.2.1 1 9<;>simp
     cases gO x.2.2.1 0 99<;>simp
     by_cases hs:x.2.2.2=CM s x
     ·simp[hs]
     ·have:(x.2.2.2==CM s x)=false:=by simpa using hs
      simp[this]
  refine Eq.trans (key l 0 0 rfl) ?_
  unfold hZ
  simp[hc]
 ·have h1:(decide ((l.length:Int)>200))=true:=decide_eq_true (by omega)
  rw[h1,cond_true]
  unfold hZ
  rw[decide_eq_false hc]
  rfl
end Go.Pv.R
namespace Go.Pv
set_option linter.unusedVariables false
set_option linter.unusedSimpArgs false
theorem FR {α:Type} {p:α→Bool}:∀ {l:List α} {i k:Nat},gN p l i=some k→∃ j,∃ h:j<l.length,k=i+j∧p l[j]=true∧∀ j' (h':j'<j),p (l[j']'(by omega))=false
 |[],i,k,h=>by cases h
 |x::r,i,k,h=>by
  simp only[gN] at h
  cases hp:p x with
  |true=>
   rw[hp] at h
   injection h with h
   exact⟨0,by simp,by omega,hp,fun j' h'=>by omega⟩
  |false=>
   rw[hp] at h
   obtain⟨j,hj,e,h1,h2⟩:=FR (l:=r) h
   refine⟨j+1,by simpa using hj,by omega,h1,fun j' h'=>?_⟩
   cases j' with
   |zero=>exact hp
   |succ j'=>exact h2 j' (by omega)
theorem FT {α:Type} {p:α→Bool}:∀ {l:List α} {i:Nat},gN p l i=none→∀ j (h:j<l.length),p l[j]=false
 |[],i,h,j,hj=>by simp at hj
 |x::r,i,h,j,hj=>by
  simp only[gN] at h
  cases hp:p x with
  |true=>rw[hp] at h;cases h
  |false=>
   rw[hp] at h
   cases j with
   |zero=>exact hp
   |succ j=>exact FT (l:=r) h j (by simpa using hj)
theorem je {α:Type} {body:Nat→α→Option aa→Option aa} {bF:Option aa} {kf:Nat→Option aa} {p:α→Bool} (hb:∀ (i:Nat) (x:α) (next:Option aa),body i x next=bif p x then kf i else next):∀ (l:List α) (i:Nat),kC body bF l i=match gN p l i with
  |some k=>kf k
  |none=>bF
 |[],_=>rfl
 |x::r,i=>by
  simp only[kC,gN]
  rw[hb]
  cases p x
  ·exact je hb r (i+1)
  ·rfl
def fB {α:Type} (p:α→Bool) (l:List α):Int:=match gN p l 0 with
 |some k=>(k:Int)
 |none=>-1
theorem b7 {α:Type} {p:α→Bool} {l:List α} (h: ¬fB p l<0):∃ k:Nat,∃ hk:k<l.length,fB p l=(k:Int)∧p l[k]=true∧∀ j (hj:j<k),p (l[j]'(by omega))=false:=by
 unfold fB at*
 split at h
 ·rename_i k hk
  obtain⟨j,hj,e,h1,h2⟩:=FR hk
  obtain rfl:k=j:=by omega
  exact⟨k,hj,rfl,h1,h2⟩
 ·omega
theorem AR {α:Type} {p:α→Bool} {l:List α} (h:fB p l<0):fB p l=-1∧∀ j (hj:j<l.length),p l[j]=false:=by
 unfold fB at*
 split at h
 ·omega
 ·rename_i hn
  exact⟨rfl,FT hn⟩
theorem FU {α:Type} {p q:Nat→α→Bool}:∀ {l:List α} {i:Nat},allI (fun i x=>p i x&&q i x) l i=(allI p l i&&allI q l i)
 |[],_=>rfl
 |x::r,i=>by
  simp only[allI,FU (l:=r)]
  cases p i x<;>cases q i x<;>cases allI p r (i+1)<;>simp
theorem Tj {α:Type} {p q:Nat→α→Bool} {l:List α} (h:∀ (j:Nat) (hj:j<l.length),p j l[j]=q j l[j]):allI p l 0=allI q l 0:=by
 apply Bool.eq_iff_iff.2
 rw[fz,fz]
 constructor
 ·intro h1 j hj;have:=h1 j hj;rw[Nat.zero_add] at*;rw[←h j hj];exact this
 ·intro h1 j hj;have:=h1 j hj;rw[Nat.zero_add] at*;rw[h j hj];exact this
theorem oo {i m:Nat} (h0:0<i) (h:i<m) (hm:m≤maxLen):IntKind.wrap .i64 ((i:Int) - 1)=((i - 1:Nat):Int):=by
 have:=ar
 rw[wrap64]<;>omega
end Go.Pv
namespace Go.Pv.R
set_option linter.unusedVariables false
set_option linter.unusedSimpArgs false
abbrev aB:=QT
def aF (l:List aB) (id:Int):Int:=fB (fun x:aB=>x.1==id) l
theorem jf {N:Nat} {l:List aB} {id:Int} {kf:Int→Option aa} (hl:l.length≤maxLen) (hN:l.length<N):ve N l id kf=kf (aF l id):=by
 unfold ve
 rw[abg hl hN,je (p:=fun x:aB=>x.1==id) (kf:=fun i=>kf (i:Int)) (fun i x next=>rfl)]
 unfold aF fB
 cases gN (fun x:aB=>x.1==id) l 0<;>rfl
theorem mq {N:Nat} {l:List aB} {id:Int} {kf:Int→Option aa} (hl:l.length≤maxLen) (hN:l.length<N):NG N l id kf=kf (aF l id):=by
 unfold NG auY
 rw[aa3 hl hN]
 simp only[akI]
 rw[je (p:=fun x:aB=>x.1==id) (kf:=fun i=>kf (i:Int)) (fun i x next=>rfl)]
 unfold aF fB
 cases gN (fun x:aB=>x.1==id) l 0<;>rfl
def mu (l:List Int) (n:Int):Int:=foldI (fun i x s=>bif x==n then IntKind.wrap .i64 (s+1) else s) l 0 0
theorem Xq {N:Nat} {l:List Int} {n:Int} {kf:Int→Option aa} (hl:l.length≤maxLen) (hN:l.length<N):SZ N l n kf=kf (mu l n):=by
 unfold SZ
 rw[abh hl hN,AD (fun i x s=>bif x==n then IntKind.wrap .i64 (s+1) else s) (fun i x s next h e=>by cases x==n<;>rfl)]
 rfl
theorem Tk {N:Nat} {l:List Int} {n:Int} {kf:Int→Option aa} (hl:l.length≤maxLen) (hN:l.length<N):I78 N l n kf=kf (mu l n):=by
 unfold I78
 rw[afk hl hN,AD (fun i x s=>bif x==n then IntKind.wrap .i64 (s+1) else s) (fun i x s next h e=>by cases x==n<;>rfl)]
 rfl
abbrev aB.met (x:aB):List Int:=x.2.2.2.2.2
def jB (l:List aB) (i:Nat) (x:aB):Bool:=gO x.1 1 99&&(gO x.2.1 1 99&&(gO x.2.2.1 0 x.met.length&&(gO x.2.2.2.2.1 0 x.met.length&&(gO x.2.2.2.1 0 100000&&(decide (x.met.length≤20)&&(decide (i=0)||decide ((l.getD (i - 1) ax).1<x.1)))))))
def JE (l:List aB) (x:aB) (id:Int):Bool:=!decide (aF l id<0)&&(!(id==x.1)&&(mu x.met id==mu (l.getD (aF l id).toNat ax).met x.1))
def aG (l:List aB):Bool:=decide (l.length≤10)&&(allI (jB l) l 0&&allI (fun _ x=>x.met.all (JE l x)) l 0)
def JF (l:List aB) (i:Nat) (x:aB) (id:Int):Bool:=!decide (aF l id<0)&&(!(aF l id==(i:Int))&&(mu (l.getD (aF l id).toNat ax).met x.1==mu x.met (l.getD (aF l id).toNat ax).1))
theorem xI {α:Type} {p:α→Bool}:∀ {l:List α} {i:Nat},allI (fun _ x=>p x) l i=l.all p
 |[],_=>rfl
 |x::r,i=>by simp only[allI,List.all_cons,xI (l:=r)]
theorem vm {l:List aB} (h:allI (jB l) l 0=true):∀ (j i:Nat) (hi:i<l.length),j<i→(l.getD j ax).1<l[i].1:=by
 rw[fz] at h
 have step:∀ (i:Nat) (hi:i<l.length),0<i→(l.getD (i - 1) ax).1<l[i].1:=fun i hi h0=>by
  have:=h i hi
  rw[Nat.zero_add] at this
  simp only[jB,Bool.and_eq_true,Bool.or_eq_true,decide_eq_true_eq] at this
  omega
 intro j i hi lg
 induction i with
 |zero=>omega
 |succ i ih=>
  have h1:=step (i+1) hi (by omega)
  rw[Nat.add_sub_cancel,ai _ _ (show i<l.length by omega)] at h1
  rcases Nat.lt_or_eq_of_le (Nat.le_of_lt_succ lg) with h2 |rfl
  ·have:=ih (by omega) h2;omega
  ·rw[ai _ _ (by omega)];exact h1
theorem FV {l:List aB} (h:allI (jB l) l 0=true) {i:Nat} (hi:i<l.length) {id:Int}:aF l id=(i:Int)↔id=l[i].1:=by
 constructor
 ·intro e
  obtain⟨k,hk,e1,h1,_⟩:=b7 (p:=fun x:aB=>x.1==id) (l:=l) (by unfold aF at e;omega)
  unfold aF at e
  obtain rfl:k=i:=by omega
  exact(beq_iff_eq.1 h1).symm
 ·rintro rfl
  unfold aF
  by_cases hn:fB (fun x:aB=>x.1==l[i].1) l<0
  ·have:=(AR hn).2 i hi
   simp at this
  ·obtain⟨k,hk,e1,h1,h2⟩:=b7 hn
   rw[e1]
   have h1:l[k].1=l[i].1:=by simpa using h1
   rcases Nat.lt_trichotomy k i with cR |rfl |cR
   ·have:=vm h k i hi cR
    rw[ai _ _ hk] at this
    omega
   ·rfl
   ·have:=h2 i cR
    simp at this
theorem alZ {l:List aB} (h:allI (jB l) l 0=true) {i:Nat} (hi:i<l.length) (id:Int):JF l i l[i] id=JE l l[i] id:=by
 unfold JF JE
 by_cases hn:aF l id<0
 ·simp[hn]
 ·rw[decide_eq_false hn,Bool.not_false,Bool.true_and,Bool.true_and]
  have e1:(aF l id==(i:Int))=(id==l[i].1):=by
   apply Bool.eq_iff_iff.2
   rw[beq_iff_eq,beq_iff_eq]
   exact FV h hi
  rw[e1]
  obtain⟨k,hk,e2,h2,_⟩:=b7 (p:=fun x:aB=>x.1==id) hn
  have e3:aF l id=(k:Int):=e2
  rw[e3,Int.toNat_natCast,ai _ _ hk,show l[k].1=id by simpa using h2]
  congr 1
  apply Bool.eq_iff_iff.2
  rw[beq_iff_eq,beq_iff_eq]
  exact⟨fun h=>h.symm,fun h=>h.symm⟩
theorem Ob (l:List aB):(allI (fun i x=>jB l i x&&x.met.all (JF l i x)) l 0&&decide (l.length≤10))=aG l:=by
 unfold aG
 rw[FU]
 cases h:allI (jB l) l 0 with
 |false=>simp
 |true=>
  have:allI (fun i x=>x.met.all (JF l i x)) l 0=allI (fun _ x=>x.met.all (JE l x)) l 0:=Tj fun j hj=>by
   congr 1
   funext id
   exact alZ h hj id
  rw[this]
  cases decide (l.length≤10)<;>simp
theorem kg {N:Nat} {l:List aB} {kf:Bool→Option aa} (hl:l.length≤maxLen) (hm:∀ x∈l,x.met.length≤maxLen∧x.met.length<N) (hN:l.length<N):tF N l kf=kf (aG l):=by
 unfold tF
 rw[abj hl hN,fQ (l:=l) (p:=fun i x=>jB l i x&&x.met.all (JF l i x)) (kf:=kf false) (fun i x next h e=>?_) l 0 rfl,←Ob]
 ·cases allI (fun i x=>jB l i x&&x.met.all (JF l i x)) l 0
  ·rfl
  ·simp only[cond_true,Bool.true_and]
   congr 1
   apply Bool.eq_iff_iff.2
   simp
   omega
 ·have hx:x∈l:=by rw[←e];exact List.getElem_mem h
  obtain⟨m1,m2⟩:=hm x hx
  have inner:ja N l (i:Int) x N next kf (0:Int)=bif x.met.all (JF l i x) then next else kf false:=by
   rw[abi m1 m2,fQ (l:=x.met) (p:=fun _ id=>JF l i x id) (kf:=kf false) (fun j id next' hj ej=>?_) x.met 0 rfl,xI]
   rw[jf hl hN]
   unfold JF
   by_cases hn:aF l id<0
   ·simp[hn]
   ·rw[decide_eq_false hn,cond_false,Bool.not_false,Bool.true_and]
    cases hf:aF l id==(i:Int)
    ·obtain⟨k,hk,e2,h2,_⟩:=b7 (p:=fun x:aB=>x.1==id) hn
     have e3:aF l id=(k:Int):=e2
     obtain⟨q1,q2⟩:=hm l[k] (List.getElem_mem hk)
     rw[cond_false,e3,an hk,cond_true,cond_true,Int.toNat_natCast,ai _ _ hk,Xq q1 q2,Xq m1 m2]
     cases hc:(mu l[k].met x.1==mu x.met l[k].1)<;>simp[bne,hc]
    ·simp
  have ord:∀ A B:Option aa,(bif (decide ((i:Int)>(0:Int))) then
    bif (aM (IntKind.wrap .i64 ((i:Int) - (1:Int))) (List.length l)) then
     bif (decide ((List.getD l (Int.toNat (IntKind.wrap .i64 ((i:Int) - (1:Int)))) ax).1≥x.1)) then A else B
    else none
   else B)=bif (decide (i=0)||decide ((l.getD (i - 1) ax).1<x.1)) then B else A:=fun A B=>by
   by_cases h0:i=0
   ·subst h0;simp
   ·rw[decide_eq_true (show(i:Int)>0 by omega),cond_true,oo (by omega) h hl,an (by omega),cond_true,Int.toNat_natCast,decide_eq_false h0,Bool.false_or]
    by_cases hc:(l.getD (i - 1) ax).1<x.1
    ·rw[decide_eq_false (by omega),decide_eq_true hc];rfl
    ·rw[decide_eq_true (by omega),decide_eq_false hc];rfl
  simp only[lA,inner,ord]
  unfold jB
  cases gO x.1 1 99<;>simp
  cases gO x.2.1 1 99<;>simp
  cases gO x.2.2.1 0 x.met.length<;>simp
  cases gO x.2.2.2.2.1 0 x.met.length<;>simp
  cases gO x.2.2.2.1 0 100000<;>simp
  by_cases CN:x.met.length≤20
  ·rw[decide_eq_false (show ¬(20:Int)<(x.met.length:Int) by omega),decide_eq_true CN]
   simp
   cases (decide (i=0)||decide ((l[i - 1]?.getD ax).1<x.1))<;>simp
  ·rw[decide_eq_true (show(20:Int)<(x.met.length:Int) by omega),decide_eq_false CN]
   simp
theorem lB {N:Nat} {l:List aB} {kf:Bool→Option aa} (hl:l.length≤maxLen) (hm:∀ x∈l,x.met.length≤maxLen∧x.met.length<N) (hN:l.length<N):AF N l kf=kf (aG l):=by
 unfold AF
 by_cases h10:l.length≤10
 rotate_left
 ·rw[decide_eq_true (by omega),cond_true]
  unfold aG
  rw[decide_eq_false h10]
  rfl
 rw[decide_eq_false (by omega),cond_false]
 rw[aa5 hl hN,fQ (l:=l) (p:=fun i x=>jB l i x&&x.met.all (JE l x)) (kf:=kf false) (fun i x next h e=>?_) l 0 rfl]
 ·unfold aG
  rw[decide_eq_true h10,Bool.true_and,FU]
  cases (allI (jB l) l 0&&allI (fun _ x=>x.met.all (JE l x)) l 0)<;>rfl
 ·have hx:x∈l:=by rw[←e];exact List.getElem_mem h
  obtain⟨m1,m2⟩:=hm x hx
  have inner:gP N l x l (List.length l:Int) (i:Int) x.2.2.2.2.2 (List.length x.2.2.2.2.2:Int) N next kf (0:Int)=bif x.met.all (JE l x) then next else kf false:=by
   rw[Tf m1 m2,fQ (l:=x.met) (p:=fun _ id=>JE l x id) (kf:=kf false) (fun j id next' hj ej=>?_) x.met 0 rfl,xI]
   rw[mq hl hN]
   unfold JE
   by_cases hn:aF l id<0
   ·simp[hn]
   ·rw[decide_eq_false hn,cond_false,Bool.not_false,Bool.true_and]
    cases hf:id==x.1
    ·obtain⟨k,hk,e2,h2,_⟩:=b7 (p:=fun x:aB=>x.1==id) hn
     have e3:aF l id=(k:Int):=e2
     obtain⟨q1,q2⟩:=hm l[k] (List.getElem_mem hk)
     rw[cond_false,e3,an hk,cond_true,Int.toNat_natCast,ai _ _ hk,Tk m1 m2,Tk q1 q2]
     cases hc:(mu x.met id==mu l[k].met x.1)<;>simp[bne,hc]
    ·simp
  have ord:∀ A B:Option aa,(bif (decide ((i:Int)>(0:Int))) then
    bif (aM (IntKind.wrap .i64 ((i:Int) - (1:Int))) (List.length l)) then
     bif (decide (x.1≤(List.getD l (Int.toNat (IntKind.wrap .i64 ((i:Int) - (1:Int)))) ax).1)) then A else B
    else none
   else B)=bif (decide (i=0)||decide ((l.getD (i - 1) ax).1<x.1)) then B else A:=fun A B=>by
   by_cases h0:i=0
   ·subst h0;simp
   ·rw[decide_eq_true (show(i:Int)>0 by omega),cond_true,oo (by omega) h hl,an (by omega),cond_true,Int.toNat_natCast,decide_eq_false h0,Bool.false_or]
    by_cases hc:(l.getD (i - 1) ax).1<x.1
    ·rw[decide_eq_false (by omega),decide_eq_true hc];rfl
    ·rw[decide_eq_true (by omega),decide_eq_false hc];rfl
  simp only[ni,inner,ord]
  unfold jB
  cases gO x.1 1 99<;>simp
  cases (decide (i=0)||decide ((l[i - 1]?.getD ax).1<x.1))<;>simp
  cases gO x.2.1 1 99<;>simp
  by_cases CN:x.met.length≤20
  ·rw[decide_eq_false (show ¬(20:Int)<(x.met.length:Int) by omega),decide_eq_true CN]
   simp
   cases gO x.2.2.1 0 x.met.length<;>simp
   cases gO x.2.2.2.2.1 0 x.met.length<;>simp
   cases gO x.2.2.2.1 0 100000<;>simp
  ·rw[decide_eq_true (show(20:Int)<(x.met.length:Int) by omega),decide_eq_false CN]
   simp
theorem Oc {l:List aB} {N:Nat} (hw:wf (.sl bo) l) (hN:ah (.sl bo) l<N):∀ x∈l,x.met.length≤maxLen∧x.met.length<N:=fun x hx=>by
 have h1:=ba (t:=bo) hx
 have h2:ah bo x=ah (.sl (.int .i64)) x.2.2.2.2.2:=by simp[ah]
 have h3:=aO (t:=.int .i64) x.2.2.2.2.2
 exact⟨(hw.2 x hx).2.2.2.2.2.1,by show x.2.2.2.2.2.length<N;omega⟩
end Go.Pv.R
namespace Go.Pv
set_option linter.unusedVariables false
set_option linter.unusedSimpArgs false
def kh {α β:Type} (c:Nat→α→Bool) (f:Nat→α→β):List α→Nat→List β
 |[],_=>[]
 |x::r,i=>bif c i x then f i x::kh c f r (i+1) else kh c f r (i+1)
theorem kH {α β:Type} {body:Nat→α→List β→(List β→Option aa)→Option aa} {bF:List β→Option aa} {c:Nat→α→Bool} {f:Nat→α→β} {l:List α}
  (hb:∀ (i:Nat) (x:α) (s:List β) (next:List β→Option aa) (h:i<l.length),l[i]=x→s.length≤i→body i x s next=bif c i x then next (s++[f i x]) else next s):
  ∀ (r:List α) (i:Nat) (s:List β),l.drop i=r→s.length≤i→bQ body bF r i s=bF (s++kh c f r i)
 |[],i,s,_,_=>by simp[bQ,kh]
 |x::r,i,s,hd,hs=>by
  have cR:i<l.length:=by have:=congrArg List.length hd;simp at this;omega
  rw[List.drop_eq_getElem_cons cR] at hd
  injection hd with h1 h2
  simp only[bQ,kh]
  rw[hb i x s _ cR h1 hs]
  cases c i x
  ·rw[cond_false,cond_false]
   exact kH hb r (i+1) s h2 (by omega)
  ·rw[cond_true,cond_true,kH hb r (i+1) (s++[f i x]) h2 (by simp;omega)]
   simp
theorem Ih {α:Type} (p:α→Bool) (l:List α):decide (fB p l≥0)=l.any p:=by
 by_cases h:fB p l<0
 ·rw[decide_eq_false (by omega)]
  symm
  rw[List.any_eq_false]
  intro x hx
  obtain⟨j,hj,rfl⟩:=List.mem_iff_getElem.1 hx
  rw[(AR h).2 j hj]
  simp
 ·rw[decide_eq_true (by omega)]
  symm
  rw[List.any_eq_true]
  obtain⟨k,hk,_,h1,_⟩:=b7 h
  exact⟨l[k],List.getElem_mem hk,h1⟩
theorem AS (n:Int):∀ (l:List Int) (i:Nat) (s:Nat),s+l.length≤maxLen→foldI (fun _ x s=>bif x==n then IntKind.wrap .i64 (s+1) else s) l i (s:Int)=((s+l.count n:Nat):Int)
 |[],_,_,_=>by simp[foldI]
 |x::r,i,s,h=>by
  simp only[foldI,List.count_cons]
  simp only[List.length_cons] at h
  have:=ar
  cases hx:x==n with
  |false=>simp only[cond_false];rw[AS n r (i+1) s (by omega)];simp
  |true=>
   simp only[cond_true,if_true]
   rw[wrap64 (by omega) (by omega),show((s:Int)+1)=((s+1:Nat):Int) by omega,AS n r (i+1) (s+1) (by omega)]
   congr 1
   omega
theorem FW {b:List Int} (hb:b.Nodup):∀ (a:List Int),(∀ x∈a,x∈b)→(b.map fun x=>a.count x).sum=a.length
 |[],_=>by
  have:∀ l:List Int,(l.map fun x=>([]:List Int).count x).sum=0:=by
   intro l
   induction l with
   |nil=>rfl
   |cons x r ih=>rw[List.map_cons,List.sum_cons,ih];simp
  rw[this];rfl
 |y::a,h=>by
  have ih:=FW hb a (fun x hx=>h x (by simp[hx]))
  have hy:=h y (by simp)
  have key:∀ l:List Int,(l.map fun x=>(y::a).count x).sum=(l.map fun x=>a.count x).sum+l.count y:=by
   intro l
   induction l with
   |nil=>rfl
   |cons x r ihl=>
    rw[List.map_cons,List.sum_cons,ihl,List.map_cons,List.sum_cons,List.count_cons,List.count_cons]
    by_cases hxy:y=x
    ·subst hxy;simp;omega
    ·have h1:(y==x)=false:=by simpa using hxy
     have h2:(x==y)=false:=by simpa using fun e=>hxy e.symm
     rw[h1,h2];simp;omega
  rw[key,ih,List.length_cons]
  have:b.count y=1:=by
   have h1:=List.count_pos_iff.2 hy
   have h2:=List.nodup_iff_count.1 hb y
   omega
  omega
theorem al0 {b:List Int} {f:Int→Nat} (h1:∀ x∈b,f x≤1) (h2:(b.map f).sum=b.length):∀ x∈b,f x=1:=by
 have le:∀ l:List Int,(∀ x∈l,f x≤1)→(l.map f).sum≤l.length:=by
  intro l
  induction l with
  |nil=>intro _;simp
  |cons x r ih=>intro h;have:=ih (fun y hy=>h y (by simp[hy]));have:=h x (by simp);simp;omega
 induction b with
 |nil=>intro x hx;cases hx
 |cons y r ih=>
  have hr:=le r (fun x hx=>h1 x (by simp[hx]))
  have hy:=h1 y (by simp)
  simp only[List.map_cons,List.sum_cons,List.length_cons] at h2
  intro x hx
  rcases List.mem_cons.1 hx with rfl |hx
  ·omega
  ·exact ih (fun x hx=>h1 x (by simp[hx])) (by omega) x hx
theorem afM {a b:List Int} (hb:b.Nodup) (h:∀ x∈a,x∈b):(∀ x∈b,a.count x=1)↔a.Nodup∧a.length=b.length:=by
 have hs:=FW hb a h
 constructor
 ·intro h1
  refine⟨List.nodup_iff_count.2 fun x=>?_,?_⟩
  ·by_cases hx:x∈a
   ·rw[h1 x (h x hx)];exact Nat.le_refl _
   ·rw[List.count_eq_zero_of_not_mem hx];omega
  ·have key:∀ l:List Int,(∀ x∈l,a.count x=1)→(l.map fun x=>a.count x).sum=l.length:=by
    intro l
    induction l with
    |nil=>intro _;rfl
    |cons x r ih=>intro h;simp[ih (fun y hy=>h y (by simp[hy])),h x (by simp)];omega
   rw[key b h1] at hs
   exact hs.symm
 ·intro ⟨h1,h2⟩
  exact al0 (fun x _=>List.nodup_iff_count.1 h1 x) (by rw[hs,h2])
end Go.Pv
namespace Go.Pv.R
set_option linter.unusedVariables false
set_option linter.unusedSimpArgs false
abbrev aZ:=QJ
abbrev cu:=a8
theorem abI {l:List Int} {n:Int} (h:l.length≤maxLen):mu l n=(l.count n:Int):=by
 have:=AS n l 0 0 (by omega)
 rw[Nat.zero_add] at this
 exact this
def lC (l:List Int) (n:Int):Bool:=l.any fun x=>x==n
theorem mv {l:List Int} {n:Int}:lC l n=true↔n∈l:=by
 unfold lC
 rw[List.any_eq_true]
 constructor
 ·rintro⟨x,hx,h⟩
  have:x=n:=by simpa using h
  exact this▸hx
 ·intro h;exact⟨n,h,by simp⟩
theorem qd {N:Nat} {l:List Int} {n:Int} {kf:Bool→Option aa} (hl:l.length≤maxLen) (hN:l.length<N):vf N l n kf=kf (lC l n):=by
 unfold vf
 rw[abl hl hN,je (p:=fun x:Int=>x==n) (kf:=fun _=>kf true) (fun i x next=>rfl)]
 unfold lC
 rw[←Ih]
 unfold fB
 cases gN (fun x:Int=>x==n) l 0
 ·rfl
 ·rw[decide_eq_true (by simp)]
theorem JG {N:Nat} {l:List Int} {n:Int} {kf:Bool→Option aa} (hl:l.length≤maxLen) (hN:l.length<N):S82 N l n kf=kf (lC l n):=by
 unfold S82 SH
 rw[Ie hl hN,je (p:=fun x:Int=>n==x) (kf:=fun i=>kf (decide ((i:Int)≥0))) (fun i x next=>rfl)]
 have e:lC l n=l.any fun x=>n==x:=by
  unfold lC
  congr 1
  funext x
  apply Bool.eq_iff_iff.2
  rw[beq_iff_eq,beq_iff_eq]
  exact⟨fun h=>h.symm,fun h=>h.symm⟩
 rw[e,←Ih]
 unfold fB
 cases gN (fun x:Int=>n==x) l 0<;>rfl
def cD (l:List aZ) (id:Int):Int:=fB (fun x:aZ=>x.1==id) l
theorem Xr {N:Nat} {l:List aZ} {id:Int} {kf:Int→Option aa} (hl:l.length≤maxLen) (hN:l.length<N):FE N l id kf=kf (cD l id):=by
 unfold FE
 rw[abt hl hN,je (p:=fun x:aZ=>x.1==id) (kf:=fun i=>kf (i:Int)) (fun i x next=>rfl)]
 unfold cD fB
 cases gN (fun x:aZ=>x.1==id) l 0<;>rfl
theorem av0 {N:Nat} {l:List aZ} {id:Int} {kf:Int→Option aa} (hl:l.length≤maxLen) (hN:l.length<N):S80 N l id kf=kf (cD l id):=by
 unfold S80
 rw[afo hl hN]
 simp only[I81]
 rw[je (p:=fun x:aZ=>x.1==id) (kf:=fun i=>kf (i:Int)) (fun i x next=>rfl)]
 unfold cD fB
 cases gN (fun x:aZ=>x.1==id) l 0<;>rfl
theorem Xs {N:Nat} {l:List aZ} {id:Int} {kf:Int→Option aa} (hl:l.length≤maxLen) (hN:l.length<N):SN N l id kf=kf (cD l id):=by
 unfold SN au5
 rw[aa8 hl hN]
 simp only[akS]
 rw[je (p:=fun x:aZ=>x.1==id) (kf:=fun i=>kf (i:Int)) (fun i x next=>rfl)]
 unfold cD fB
 cases gN (fun x:aZ=>x.1==id) l 0<;>rfl
def Od (s:List Int):Bool:=allI (fun i y=>gO y 1 99&&(decide (i=0)||decide (s.getD (i - 1) 0<y))) s 0
def nD (l:List aZ) (i:Nat) (x:aZ):Bool:=gO x.1 1 99&&(gO x.2.1 1 99&&((decide (i=0)||decide ((l.getD (i - 1) cg).1<x.1))&&Od x.2.2))
def bZ (l:List aZ):Bool:=decide (l.length≤10)&&allI (nD l) l 0
theorem Tl {α:Type} {l:List α} {i:Nat} {z:α} {g:α→Int} {y:Int} {A B:Option aa} (hi:i<l.length) (hl:l.length≤maxLen):(bif (decide ((i:Int)>(0:Int))) then
    bif (aM (IntKind.wrap .i64 ((i:Int) - (1:Int))) (List.length l)) then
     bif (decide (y≤g (List.getD l (Int.toNat (IntKind.wrap .i64 ((i:Int) - (1:Int)))) z))) then A else B
    else none
   else B)=bif (decide (i=0)||decide (g (l.getD (i - 1) z)<y)) then B else A:=by
 by_cases h0:i=0
 ·subst h0;simp
 ·rw[decide_eq_true (show(i:Int)>0 by omega),cond_true,oo (by omega) hi hl,an (by omega),cond_true,Int.toNat_natCast,decide_eq_false h0,Bool.false_or]
  by_cases hc:g (l.getD (i - 1) z)<y
  ·rw[decide_eq_false (by omega),decide_eq_true hc];rfl
  ·rw[decide_eq_true (by omega),decide_eq_false hc];rfl
theorem Xt {α:Type} {l:List α} {i:Nat} {z:α} {g:α→Int} {y:Int} {A B:Option aa} (hi:i<l.length) (hl:l.length≤maxLen):(bif (decide ((i:Int)>(0:Int))) then
    bif (aM (IntKind.wrap .i64 ((i:Int) - (1:Int))) (List.length l)) then
     bif (decide (g (List.getD l (Int.toNat (IntKind.wrap .i64 ((i:Int) - (1:Int)))) z)≥y)) then A else B
    else none
   else B)=bif (decide (i=0)||decide (g (l.getD (i - 1) z)<y)) then B else A:=Tl hi hl
theorem JH {N:Nat} {l:List aZ} {kf:Bool→Option aa} (hl:l.length≤maxLen) (hm:∀ x∈l,x.2.2.length≤maxLen∧x.2.2.length<N) (hN:l.length<N):aaV N l kf=kf (bZ l):=by
 unfold aaV
 rw[abn hl hN,fQ (l:=l) (p:=nD l) (kf:=kf false) (fun i x next h e=>?_) l 0 rfl]
 ·unfold bZ
  cases allI (nD l) l 0
  ·simp
  ·simp only[cond_true,Bool.and_true]
   congr 1
   apply Bool.eq_iff_iff.2
   simp
   omega
 ·have hx:x∈l:=by rw[←e];exact List.getElem_mem h
  obtain⟨m1,m2⟩:=hm x hx
  have inner:hY N l (i:Int) N next kf (0:Int)=bif Od x.2.2 then next else kf false:=by
   have hg:List.getD l (Int.toNat (i:Int)) cg=x:=by rw[Int.toNat_natCast,ai _ _ h,e]
   rw[abm (an h) (by rw[hg];exact m1) (by rw[hg];exact m2)]
   simp only[hg]
   rw[fQ (l:=x.2.2) (p:=fun i y=>gO y 1 99&&(decide (i=0)||decide (x.2.2.getD (i - 1) 0<y))) (kf:=kf false) (fun j y next' hj ej=>?_) x.2.2 0 rfl]
   ·rfl
   ·rw[lA]
    have:=Xt (l:=x.2.2) (z:=(0:Int)) (g:=fun x=>x) (y:=y) (A:=kf false) (B:=next') hj m1
    rw[this]
    cases gO y 1 99<;>simp
  simp only[lA,inner]
  have ho:=fun A B=>Xt (l:=l) (z:=cg) (g:=fun x=>x.1) (y:=x.1) (A:=A) (B:=B) h hl
  simp only[ho]
  unfold nD
  cases gO x.1 1 99<;>simp
  cases gO x.2.1 1 99<;>simp
  cases (decide (i=0)||decide ((l[i - 1]?.getD cg).1<x.1))<;>simp
theorem Tm {N:Nat} {l:List aZ} {kf:Bool→Option aa} (hl:l.length≤maxLen) (hm:∀ x∈l,x.2.2.length≤maxLen∧x.2.2.length<N) (hN:l.length<N):I79 N l kf=kf (bZ l):=by
 unfold I79
 by_cases h10:l.length≤10
 rotate_left
 ·rw[decide_eq_true (by omega),cond_true]
  unfold bZ
  rw[decide_eq_false h10]
  rfl
 rw[decide_eq_false (by omega),cond_false]
 rw[afm hl hN,fQ (l:=l) (p:=nD l) (kf:=kf false) (fun i x next h e=>?_) l 0 rfl]
 ·unfold bZ
  rw[decide_eq_true h10,Bool.true_and]
  cases allI (nD l) l 0<;>rfl
 ·have hx:x∈l:=by rw[←e];exact List.getElem_mem h
  obtain⟨m1,m2⟩:=hm x hx
  have inner:mh N l x l (List.length l:Int) (i:Int) x.2.2 (List.length x.2.2:Int) N next kf (0:Int)=bif Od x.2.2 then next else kf false:=by
   rw[afl m1 m2]
   rw[fQ (l:=x.2.2) (p:=fun i y=>gO y 1 99&&(decide (i=0)||decide (x.2.2.getD (i - 1) 0<y))) (kf:=kf false) (fun j y next' hj ej=>?_) x.2.2 0 rfl]
   ·rfl
   ·rw[ni]
    have:=Tl (l:=x.2.2) (z:=(0:Int)) (g:=fun x=>x) (y:=y) (A:=kf false) (B:=next') hj m1
    rw[this]
    cases gO y 1 99<;>simp
  simp only[ni,inner]
  have ho:=fun A B=>Tl (l:=l) (z:=cg) (g:=fun x=>x.1) (y:=x.1) (A:=A) (B:=B) h hl
  simp only[ho]
  unfold nD
  cases gO x.1 1 99<;>simp
  cases gO x.2.1 1 99<;>simp
  cases (decide (i=0)||decide ((l[i - 1]?.getD cg).1<x.1))<;>simp
theorem JI {l:List aZ} {N:Nat} (hw:wf (.sl bY) l) (hN:ah (.sl bY) l<N):∀ x∈l,x.2.2.length≤maxLen∧x.2.2.length<N:=fun x hx=>by
 have h1:=ba (t:=bY) hx
 have h2:ah bY x=ah (.sl (.int .i64)) x.2.2:=by simp[ah]
 have h3:=aO (t:=.int .i64) x.2.2
 exact⟨(hw.2 x hx).2.2.1,by omega⟩
def FX (l:List aB) (id:Int):Int:=(l.getD (aF l id).toNat ax).2.1
def aBz (l:List aB) (id:Int):List Int:=(l.getD (aF l id).toNat ax).met
def rS (l:List aB) (a b:Int):Bool:=decide (aF l a≥0)&&lC (aBz l a) b
def cA (l:List aB) (a b:Int):Bool:=aG l&&(decide (aF l a≥0)&&(decide (aF l b≥0)&&((aF l a != aF l b)&&((FX l a != FX l b)&& !rS l a b))))
theorem eX {l:List aB} {id:Int} (h:aF l id≥0):aM (aF l id) l.length=true∧(aF l id).toNat<l.length:=by
 obtain⟨k,hk,e,_⟩:=b7 (p:=fun x:aB=>x.1==id) (l:=l) (by unfold aF at h;omega)
 have e:aF l id=(k:Int):=e
 rw[e]
 exact⟨an hk,by simpa using hk⟩
theorem al1 {N:Nat} {l:List aB} {a b:Int} {kf:Bool→Option aa} (hl:l.length≤maxLen) (hm:∀ x∈l,x.met.length≤maxLen∧x.met.length<N) (hN:l.length<N):ak8 N l a b kf=kf (rS l a b):=by
 unfold ak8 rS
 rw[jf hl hN]
 by_cases h:aF l a≥0
 ·obtain⟨h1,h2⟩:=eX h
  have hx:l.getD (aF l a).toNat ax∈l:=by rw[ai _ _ h2];exact List.getElem_mem h2
  obtain⟨m1,m2⟩:=hm _ hx
  rw[decide_eq_true h,cond_true,h1,cond_true,qd m1 m2]
  rfl
 ·rw[decide_eq_false h];rfl
theorem av1 {N:Nat} {l:List aB} {a b:Int} {kf:Bool→Option aa} (hl:l.length≤maxLen) (hm:∀ x∈l,x.met.length≤maxLen∧x.met.length<N) (hN:l.length<N):I19 N l a b kf=kf (rS l a b):=by
 unfold I19 rS
 rw[mq hl hN]
 by_cases h:aF l a≥0
 ·obtain⟨h1,h2⟩:=eX h
  have hx:l.getD (aF l a).toNat ax∈l:=by rw[ai _ _ h2];exact List.getElem_mem h2
  obtain⟨m1,m2⟩:=hm _ hx
  rw[decide_eq_true h,cond_true,h1,cond_true,JG m1 m2]
  rfl
 ·rw[decide_eq_false h];rfl
theorem Xu {N:Nat} {l:List aB} {a b:Int} {kf:Bool→Option aa} (hl:l.length≤maxLen) (hm:∀ x∈l,x.met.length≤maxLen∧x.met.length<N) (hN:l.length<N):S0 N l a b kf=kf (cA l a b):=by
 unfold S0 cA
 rw[jf hl hN,jf hl hN,kg hl hm hN]
 cases aG l
 ·rfl
 by_cases ha:aF l a≥0
 rotate_left
 ·rw[decide_eq_false ha];rfl
 by_cases hb:aF l b≥0
 rotate_left
 ·rw[decide_eq_true ha,decide_eq_false hb];rfl
 rw[decide_eq_true ha,decide_eq_true hb,(eX ha).1,(eX hb).1,al1 hl hm hN]
 simp only[cond_true,Bool.true_and]
 cases aF l a != aF l b
 ·rfl
 unfold FX
 cases (l.getD (aF l a).toNat ax).2.1 != (l.getD (aF l b).toNat ax).2.1<;>rfl
theorem afN {N:Nat} {l:List aB} {a b:Int} {kf:Bool→Option aa} (hl:l.length≤maxLen) (hm:∀ x∈l,x.met.length≤maxLen∧x.met.length<N) (hN:l.length<N):I77 N l a b kf=kf (cA l a b):=by
 unfold I77 cA
 rw[mq hl hN,mq hl hN,lB hl hm hN]
 cases aG l
 ·rfl
 by_cases ha:aF l a≥0
 rotate_left
 ·rw[decide_eq_false ha];rfl
 by_cases hb:aF l b≥0
 rotate_left
 ·rw[decide_eq_true ha,decide_eq_false hb];rfl
 rw[decide_eq_true ha,decide_eq_true hb,(eX ha).1,(eX hb).1,av1 hl hm hN]
 simp only[cond_true,Bool.true_and]
 cases aF l a != aF l b
 ·rfl
 unfold FX
 cases (l.getD (aF l a).toNat ax).2.1 != (l.getD (aF l b).toNat ax).2.1<;>rfl
def FY (t:List aB) (j:aZ) (id:Int):Bool:=decide (aF t id≥0)&&((FX t id != j.2.1)&& !lC j.2.2 id)
def dy (t:List aB) (j:aZ) (p:cu):Bool:=FY t j p.1&&FY t j p.2
theorem Xv {N:Nat} {t:List aB} {j:aZ} {p:cu} {kf:Bool→Option aa} (hl:t.length≤maxLen) (hN:t.length<N) (h1:j.2.2.length≤maxLen) (h2:j.2.2.length<N):aaW N t j p kf=kf (dy t j p):=by
 unfold aaW dy FY
 rw[jf hl hN,jf hl hN]
 by_cases ha:aF t p.1≥0
 rotate_left
 ·rw[decide_eq_false ha];rfl
 by_cases hb:aF t p.2≥0
 rotate_left
 ·rw[decide_eq_true ha,decide_eq_false hb];simp
 rw[decide_eq_true ha,decide_eq_true hb,(eX ha).1,(eX hb).1,qd h1 h2]
 simp only[qd h1 h2,cond_true,Bool.true_and]
 unfold FX
 cases (t.getD (aF t p.1).toNat ax).2.1 != j.2.1
 ·rfl
 cases (t.getD (aF t p.2).toNat ax).2.1 != j.2.1
 ·simp
 cases lC j.2.2 p.1<;>simp
theorem afO {N:Nat} {t:List aB} {j:aZ} {p:cu} {kf:Bool→Option aa} (hl:t.length≤maxLen) (hN:t.length<N) (h1:j.2.2.length≤maxLen) (h2:j.2.2.length<N) (h3:2<N):I83 N t j p kf=kf (dy t j p):=by
 have key:∀ (id:Int) (next:Option aa),(NG N t id (fun(kE:Int)=>
     bif (decide (kE<(0:Int))) then
      kf false
     else
      bif (aM kE (List.length t)) then
       bif ((List.getD t (Int.toNat kE) ax).2.1==j.2.1) then
        kf false
       else
        S82 N j.2.2 id (fun(rJ:Bool)=>
         bif rJ then
          kf false
         else
          next)
      else none))=bif FY t j id then next else kf false:=fun id next=>by
  rw[mq hl hN]
  unfold FY
  by_cases ha:aF t id≥0
  rotate_left
  ·rw[decide_eq_false ha,decide_eq_true (by omega)];rfl
  rw[decide_eq_true ha,decide_eq_false (by omega),(eX ha).1,JG h1 h2]
  simp only[cond_true,cond_false,Bool.true_and]
  unfold FX
  cases hc:(t.getD (aF t id).toNat ax).2.1==j.2.1
  ·simp only[bne,hc,Bool.not_false,Bool.true_and,cond_false]
   cases lC j.2.2 id<;>rfl
  ·simp only[bne,hc,Bool.not_true,Bool.false_and,cond_false,cond_true]
 unfold I83
 rw[afp (by rw[ar];simp) (by simpa using h3)]
 simp only[kC,key]
 unfold dy
 cases FY t j p.1
 ·rfl
 ·simp
  cases FY t j p.2<;>rfl
end Go.Pv.R
namespace Go.Pv.R
set_option linter.unusedVariables false
set_option linter.unusedSimpArgs false
theorem al2 {N:Nat} {l:List aB} {kf:Int→Option aa} (hl:l.length≤maxLen) (hm:∀ x∈l,x.met.length≤maxLen∧x.met.length<N) (hN:l.length<N):alb N l kf=kf (bif aG l then foldI (fun _ (x:aB) s=>IntKind.wrap .i64 (s+x.2.2.1)) l 0 0 else 0):=by
 unfold alb
 rw[abq hl hN]
 simp only[kg hl hm hN]
 cases aG l with
 |false=>cases l<;>rfl
 |true=>
  simp only[cond_true]
  rw[AD (fun _ (x:aB) s=>IntKind.wrap .i64 (s+x.2.2.1)) (fun i x s next h e=>rfl)]
theorem al3 {N:Nat} {l:List aB} {kf:Int→Option aa} (hl:l.length≤maxLen) (hm:∀ x∈l,x.met.length≤maxLen∧x.met.length<N) (hN:l.length<N):akO N l kf=kf (bif aG l then foldI (fun _ (x:aB) s=>IntKind.wrap .i64 (s+x.2.2.1)) l 0 0 else 0):=by
 unfold akO
 rw[lB hl hm hN]
 cases aG l with
 |false=>rfl
 |true=>
  simp only[cond_true,Bool.not_true,cond_false]
  rw[aa7 hl hN,AD (fun _ (x:aB) s=>IntKind.wrap .i64 (s+x.2.2.1)) (fun i x s next h e=>rfl)]
def qe (l:List aB):Int:=bif aG l then foldI (fun _ (x:aB) s=>IntKind.wrap .i64 (s+x.2.2.1)) l 0 0 else 0
abbrev eY:=QB
def cf (b:eY):Bool:=gO b.1 1 99&&(gO b.2.1 0 100&&(gO b.2.2 0 100&&(b.2.1 != b.2.2)))
theorem JJ {N:Nat} {b:eY} {kf:Bool→Option aa}:N4 N b kf=kf (cf b):=by
 unfold N4 cf
 simp only[lA]
 cases gO b.1 1 99<;>simp
 cases gO b.2.1 0 100<;>simp
 cases gO b.2.2 0 100<;>simp
theorem JK {N:Nat} {b:eY} {kf:Bool→Option aa}:NL N b kf=kf (cf b):=by
 unfold NL cf
 simp only[ni]
 cases gO b.1 1 99<;>simp
 cases gO b.2.1 0 100<;>simp
 cases gO b.2.2 0 100<;>simp
def eG (r:List cu):List Int:=r.flatMap fun p=>[p.1,p.2]
def qf (l:List aB):List Int:=l.map fun x=>x.1
def jg (l:List aB) (r:List cu):Bool:=r.all (fun p=>cA l p.1 p.2)&&l.all (fun x=>decide ((eG r).count x.1=1))
theorem abJ (r:List cu):(eG r).length=2*r.length:=by
 induction r with
 |nil=>rfl
 |cons p r ih=>simp only[eG,List.flatMap_cons,List.length_append,List.length_cons,List.length_nil] at*;omega
theorem rT {l:List aB} {a b:Int} (h:cA l a b=true):aG l=true∧a∈qf l∧b∈qf l∧a≠b:=by
 unfold cA at h
 simp only[Bool.and_eq_true,decide_eq_true_eq] at h
 obtain⟨h0,ha,hb,nH,_⟩:=h
 have mem:∀ id:Int,aF l id≥0→id∈qf l:=fun id hid=>by
  obtain⟨k,hk,_,h1,_⟩:=b7 (p:=fun x:aB=>x.1==id) (l:=l) (by unfold aF at hid;omega)
  exact List.mem_map.2 ⟨l[k],List.getElem_mem hk,by simpa using h1⟩
 refine⟨h0,mem a ha,mem b hb,fun e=>?_⟩
 subst e
 simp at nH
theorem Oe {l:List aB} (h:aG l=true):(qf l).Nodup:=by
 unfold aG at h
 simp only[Bool.and_eq_true] at h
 have hm:=vm h.2.1
 have key:∀ (n:Nat) (r:List aB),l.drop n=r→(r.map fun x:aB=>x.1).Nodup:=by
  intro n r
  induction r generalizing n with
  |nil=>intro _;exact List.nodup_nil
  |cons x r ih=>
   intro hd
   have cR:n<l.length:=by have:=congrArg List.length hd;simp at this;omega
   rw[List.drop_eq_getElem_cons cR] at hd
   injection hd with h1 h2
   rw[List.map_cons,List.nodup_cons]
   refine⟨fun hx=>?_,ih (n+1) h2⟩
   obtain⟨y,hy,e⟩:=List.mem_map.1 hx
   rw[←h2] at hy
   obtain⟨j,hj,rfl⟩:=List.mem_iff_getElem.1 hy
   rw[List.getElem_drop] at e
   have hj':n+1+j<l.length:=by simp at hj;omega
   have:=hm n (n+1+j) hj' (by omega)
   rw[ai _ _ cR,h1] at this
   omega
 exact key 0 l rfl
theorem av3 {N:Nat} {l:List aB} {r:List cu} {kf:Bool→Option aa} (hl:l.length≤maxLen) (hm:∀ x∈l,x.met.length≤maxLen∧x.met.length<N) (hN:l.length<N) (hr:r.length≤1048576) (hrN:2*r.length<N):I17 N l r kf=kf (jg l r):=by
 have hML:=ar
 unfold I17
 rw[afn (by omega) (by omega)]
 have key:∀ (q:List cu) (i:Nat) (s:List Int) (bF:List Int→Option aa),r.drop i=q→s.length=2*i→bQ (fun(i:Nat) (x:a8) (fV:List Int) (next:List Int→Option aa)=>
    I77 N l x.1 x.2 (fun(kE:Bool)=>
     bif (!kE) then
      kf false
     else
      bif (decide ((List.length fV+List.length [x.1,x.2])*1≤4398046511104)) then
       next (fV++[x.1,x.2])
      else none)) bF q i s=bif q.all (fun p=>cA l p.1 p.2) then bF (s++eG q) else kf false:=by
  intro q
  induction q with
  |nil=>intro i s bF _ _;simp[bQ,eG]
  |cons p q ih=>
   intro i s bF hd hs
   have cR:i<r.length:=by have:=congrArg List.length hd;simp at this;omega
   rw[List.drop_eq_getElem_cons cR] at hd
   injection hd with h1 h2
   simp only[bQ]
   rw[afN hl hm hN]
   cases hmm:cA l p.1 p.2 with
   |false=>simp[hmm]
   |true=>
    have iz:decide ((List.length s+List.length [p.1,p.2])*1≤4398046511104)=true:=decide_eq_true (by simp;omega)
    simp only[Bool.not_true,cond_false]
    rw[iz,cond_true,ih (i+1) _ bF h2 (by simp;omega)]
    simp[hmm,eG]
 refine Eq.trans (key r 0 [] _ rfl (by simp)) ?_
 unfold jg
 cases gq:r.all (fun p=>cA l p.1 p.2) with
 |false=>rfl
 |true=>
  have hlen:(eG r).length≤maxLen∧(eG r).length<N:=by rw[abJ];omega
  rw[cond_true,List.nil_append,aa6 hl hN,fQ (l:=l) (p:=fun _ x=>decide ((eG r).count x.1=1)) (kf:=kf false) (fun i x next h e=>?_) l 0 rfl,xI (p:=fun x:aB=>decide ((eG r).count x.1=1))]
  ·simp only[Bool.true_and]
   cases l.all fun x=>decide ((eG r).count x.1=1)<;>rfl
  ·rw[Tk hlen.1 hlen.2,abI hlen.1]
   by_cases h1:(eG r).count x.1=1
   ·simp[h1]
   ·have:(((eG r).count x.1:Int) != 1)=true:=by rw[bne_iff_ne];omega
    rw[this,decide_eq_false h1]
    rfl
theorem JL {l:List aB} {r:List cu}:(r.all (fun p=>cA l p.1 p.2)&&(decide (eG r).Nodup&&(aG l&&decide ((eG r).length=l.length))))=jg l r:=by
 unfold jg
 cases gq:r.all (fun p=>cA l p.1 p.2) with
 |false=>rfl
 |true=>
  rw[Bool.true_and,Bool.true_and]
  rw[List.all_eq_true] at gq
  have G8:∀ x∈eG r,x∈qf l:=fun x hx=>by
   obtain⟨p,hp,hx⟩:=List.mem_flatMap.1 hx
   obtain⟨_,h1,h2,_⟩:=rT (gq p hp)
   simp at hx
   rcases hx with rfl |rfl
   ·exact h1
   ·exact h2
  cases ht:aG l with
  |true=>
   have:=afM (Oe ht) G8
   apply Bool.eq_iff_iff.2
   rw[List.all_eq_true,Bool.true_and,Bool.and_eq_true,decide_eq_true_eq,decide_eq_true_eq]
   rw[show(qf l).length=l.length by simp[qf]] at this
   rw[←this]
   constructor
   ·intro h x hx;exact decide_eq_true (h x.1 (List.mem_map.2 ⟨x,hx,rfl⟩))
   ·intro h x hx
    obtain⟨y,hy,rfl⟩:=List.mem_map.1 hx
    simpa using h y hy
  |false=>
   -- then there are no pairs,and there are teams
   cases r with
   |cons p r=>have:=(rT (gq p (by simp))).1;rw[ht] at this;cases this
   |nil=>
    cases l with
    |nil=>simp[aG,allI] at ht
    |cons x l=>simp[eG]
theorem al4 {N:Nat} {l:List aB} {r:List cu} {kf:Bool→Option aa} (hl:l.length≤maxLen) (hm:∀ x∈l,x.met.length≤maxLen∧x.met.length<N) (hN:l.length<N) (hr:r.length≤1048576) (hrN:2*r.length<N):alc N l r kf=kf (jg l r):=by
 have hML:=ar
 unfold alc
 rw[abr (by omega) (by omega)]
 have key:∀ (q:List cu) (i:Nat) (s:List Int) (bF:List Int→Option aa),r.drop i=q→s.length=2*i→s.Nodup→bQ (fun(i:Nat) (x:a8) (ak:List Int) (next:List Int→Option aa)=>
    S0 N l x.1 x.2 (fun(N0:Bool)=>
     bif (!N0) then
      kf false
     else
      vf N ak x.1 (fun(N1:Bool)=>
       bif N1 then
        kf false
       else
        vf N ak x.2 (fun(N3:Bool)=>
         bif N3 then
          kf false
         else
          bif (decide ((List.length ak+List.length [x.1,x.2])*1≤4398046511104)) then
           next (ak++[x.1,x.2])
          else none)))) bF q i s=bif q.all (fun p=>cA l p.1 p.2)&&decide (s++eG q).Nodup then bF (s++eG q) else kf false:=by
  intro q
  induction q with
  |nil=>intro i s bF _ _ MN;simp[bQ,eG,MN]
  |cons p q ih=>
   intro i s bF hd hs MN
   have cR:i<r.length:=by have:=congrArg List.length hd;simp at this;omega
   rw[List.drop_eq_getElem_cons cR] at hd
   injection hd with h1 h2
   simp only[bQ]
   rw[Xu hl hm hN]
   cases hmm:cA l p.1 p.2 with
   |false=>simp[hmm]
   |true=>
    have nH:=(rT hmm).2.2.2
    have G5:s.length≤maxLen∧s.length<N:=by omega
    have aBA:s++eG (p::q)=(s++[p.1,p.2])++eG q:=by simp[eG]
    simp only[Bool.not_true,cond_false]
    rw[qd G5.1 G5.2]
    cases h1':lC s p.1 with
    |true=>
     have nA:=mv.1 h1'
     have: ¬(s++eG (p::q)).Nodup:=fun h=>by
      rw[List.nodup_append] at h
      exact h.2.2 p.1 nA p.1 (by simp[eG]) rfl
     rw[decide_eq_false this]
     simp
    |false=>
     rw[cond_false,qd G5.1 G5.2]
     cases h2':lC s p.2 with
     |true=>
      have nA:=mv.1 h2'
      have: ¬(s++eG (p::q)).Nodup:=fun h=>by
       rw[List.nodup_append] at h
       exact h.2.2 p.2 nA p.2 (by simp[eG]) rfl
      rw[decide_eq_false this]
      simp
     |false=>
      have iz:decide ((List.length s+List.length [p.1,p.2])*1≤4398046511104)=true:=decide_eq_true (by simp;omega)
      have n1:p.1∉s:=fun h=>by rw[mv.2 h] at h1';cases h1'
      have n2:p.2∉s:=fun h=>by rw[mv.2 h] at h2';cases h2'
      have adg:(s++[p.1,p.2]).Nodup:=by
       rw[List.nodup_append]
       refine⟨MN,?_,?_⟩
       ·rw[List.nodup_cons]
        exact⟨by simpa using nH,by simp⟩
       ·intro a ha b hb e
        subst e
        simp at hb
        rcases hb with rfl |rfl
        ·exact n1 ha
        ·exact n2 ha
      rw[cond_false,iz,cond_true,ih (i+1) _ bF h2 (by simp;omega) adg,aBA]
      simp[hmm]
 refine Eq.trans (key r 0 [] _ rfl (by simp) List.nodup_nil) ?_
 rw[←JL]
 rw[List.nil_append]
 cases r.all (fun p=>cA l p.1 p.2)
 ·rfl
 cases decide (eG r).Nodup
 ·rfl
 simp only[Bool.true_and,cond_true]
 rw[kg hl hm hN]
 cases aG l
 ·rfl
 simp only[cond_true,Bool.true_and]
 congr 1
 apply Bool.eq_iff_iff.2
 rw[beq_iff_eq,decide_eq_true_eq]
 omega
theorem rU {l:List aZ} {id:Int} (h:cD l id≥0):aM (cD l id) l.length=true∧(cD l id).toNat<l.length:=by
 obtain⟨k,hk,e,_⟩:=b7 (p:=fun x:aZ=>x.1==id) (l:=l) (by unfold cD at h;omega)
 have e:cD l id=(k:Int):=e
 rw[e]
 exact⟨an hk,by simpa using hk⟩
def rV (t:List aB) (l:List aZ) (r:List cu) (ids:List Int) (i:Nat):Bool:=decide (cD l (ids.getD i 0)≥0)&&(!lC (ids.take i) (ids.getD i 0)&&dy t (l.getD (cD l (ids.getD i 0)).toNat cg) (r.getD i cC))
def dJ (t:List aB) (l:List aZ) (r:List cu) (ids:List Int):Bool:=decide (ids.length=r.length)&&(bZ l&&allI (fun i _=>rV t l r ids i) r 0)
theorem al5 {N:Nat} {t:List aB} {l:List aZ} {r:List cu} {ids:List Int} {kf:Bool→Option aa} (ht:t.length≤maxLen) (htN:t.length<N) (hl:l.length≤maxLen) (hm:∀ x∈l,x.2.2.length≤maxLen∧x.2.2.length<N) (hN:l.length<N)
  (hr:r.length≤maxLen) (hrN:r.length<N):ald N t l r ids kf=kf (dJ t l r ids):=by
 unfold ald dJ
 by_cases hlen:ids.length=r.length
 rotate_left
 ·have:((ids.length:Int) != (r.length:Int))=true:=by rw[bne_iff_ne];omega
  rw[this,decide_eq_false hlen];rfl
 have:((ids.length:Int) != (r.length:Int))=false:=by rw[hlen];exact bne_self_eq_false _
 rw[this,decide_eq_true hlen,cond_false,JH hl hm hN]
 cases bZ l
 ·rfl
 simp only[Bool.not_true,cond_false,Bool.true_and]
 rw[abu hr hrN,fQ (l:=r) (p:=fun i _=>rV t l r ids i) (kf:=kf false) (fun i x next h e=>?_) r 0 rfl]
 ·cases allI (fun i _=>rV t l r ids i) r 0<;>rfl
 ·have hi:i<ids.length:=by omega
  have av4:(decide ((0:Int)≤(0:Int))&&decide ((0:Int)≤(i:Int))&&decide ((i:Int)≤(List.length ids:Int)))=true:=by simp;omega
  rw[an hi,cond_true,av4]
  simp only[Int.toNat_natCast,cond_true]
  rw[Xr hl hN]
  unfold rV
  by_cases hf:cD l (ids.getD i 0)≥0
  rotate_left
  ·rw[decide_eq_false hf,decide_eq_true (by omega)];rfl
  obtain⟨f1,f2⟩:=rU hf
  have hx:l.getD (cD l (ids.getD i 0)).toNat cg∈l:=by rw[ai _ _ f2];exact List.getElem_mem f2
  obtain⟨m1,m2⟩:=hm _ hx
  rw[decide_eq_true hf,decide_eq_false (by omega),cond_false]
  have htk:(List.drop (Int.toNat 0) (List.take i ids))=ids.take i:=rfl
  rw[htk,qd (by simp;omega) (by simp;omega),f1]
  cases lC (ids.take i) (ids.getD i 0)
  ·rw[cond_false,cond_true,Xv ht htN m1 m2]
   have hrx:r.getD i cC=x:=by rw[ai _ _ h,e]
   rw[hrx]
   cases dy t (l.getD (cD l (ids.getD i 0)).toNat cg) x<;>rfl
  ·rfl
theorem av5 {N:Nat} {t:List aB} {l:List aZ} {r:List cu} {ids:List Int} {kf:Bool→Option aa} (ht:t.length≤maxLen) (htN:t.length<N) (hl:l.length≤maxLen) (hm:∀ x∈l,x.2.2.length≤maxLen∧x.2.2.length<N) (hN:l.length<N)
  (hr:r.length≤maxLen) (hrN:r.length<N) (h2N:2<N):I18 N t l r ids kf=kf (dJ t l r ids):=by
 unfold I18 dJ
 rw[Tm hl hm hN]
 cases bZ l
 ·simp
 simp only[Bool.not_true,cond_false,Bool.true_and]
 by_cases hlen:ids.length=r.length
 rotate_left
 ·have:((ids.length:Int) != (r.length:Int))=true:=by rw[bne_iff_ne];omega
  rw[this,decide_eq_false hlen];rfl
 have:((ids.length:Int) != (r.length:Int))=false:=by rw[hlen];exact bne_self_eq_false _
 rw[this,decide_eq_true hlen,cond_false,Bool.true_and]
 have gq:allI (fun i _=>rV t l r ids i) r 0=allI (fun i _=>rV t l r ids i) ids 0:=by
  apply Bool.eq_iff_iff.2
  rw[fz,fz]
  exact⟨fun h j hj=>h j (by omega),fun h j hj=>h j (by omega)⟩
 rw[gq,afq (by omega) (by omega),fQ (l:=ids) (p:=fun i _=>rV t l r ids i) (kf:=kf false) (fun i x next h e=>?_) ids 0 rfl]
 ·cases allI (fun i _=>rV t l r ids i) ids 0<;>rfl
 ·have hi:i<r.length:=by omega
  have av4:(decide ((0:Int)≤(0:Int))&&decide ((0:Int)≤(i:Int))&&decide ((i:Int)≤(List.length ids:Int)))=true:=by simp;omega
  have hid:ids.getD i 0=x:=by rw[ai _ _ h,e]
  rw[av4]
  simp only[Int.toNat_natCast,cond_true]
  rw[av0 hl hN]
  unfold rV
  rw[hid]
  by_cases hf:cD l x≥0
  rotate_left
  ·rw[decide_eq_false hf,decide_eq_true (by omega)];rfl
  obtain⟨f1,f2⟩:=rU hf
  have hx:l.getD (cD l x).toNat cg∈l:=by rw[ai _ _ f2];exact List.getElem_mem f2
  obtain⟨m1,m2⟩:=hm _ hx
  rw[decide_eq_true hf,decide_eq_false (by omega),cond_false]
  have htk:(List.drop (Int.toNat 0) (List.take i ids))=ids.take i:=rfl
  rw[htk,JG (by simp;omega) (by simp;omega),f1,an hi]
  cases lC (ids.take i) x
  ·rw[cond_false,cond_true,cond_true,afO ht htN m1 m2 h2N]
   cases dy t (l.getD (cD l x).toNat cg) (r.getD i cC)<;>rfl
  ·rfl
end Go.Pv.R
namespace Go.Pv.R
set_option linter.unusedVariables false
set_option linter.unusedSimpArgs false
abbrev aL:=QC
structure br (c:aL) (N:Nat):Prop where
 tl:c.1.length≤maxLen
 tm:∀ x:aB,x∈c.1→x.met.length≤maxLen∧x.met.length<N
 tN:c.1.length<N
 jl:c.2.1.length≤maxLen
 jm:∀ x∈c.2.1,x.2.2.length≤maxLen∧x.2.2.length<N
 jN:c.2.1.length<N
 rl:c.2.2.1.length≤1048576
 rN:2*c.2.2.1.length<N
 sl:c.2.2.2.1.length≤1048576
 sN:c.2.2.2.1.length<N
 bl:c.2.2.2.2.1.length≤1048576
 bN:c.2.2.2.2.1.length<N
 ml:c.2.2.2.2.2.1.length≤1048576
 mN:c.2.2.2.2.2.1.length<N
 n8:8<N
 tb:c.1.length≤1048700
 tmb:∀ x:aB,x∈c.1→x.met.length≤1048700
 jb:c.2.1.length≤1048700
 jmb:∀ x:aZ,x∈c.2.1→x.2.2.length≤1048700
theorem vn (c:aL):ah bM c=ah (.sl bo) c.1+(ah (.sl bY) c.2.1+(ah (.sl aP) c.2.2.1+(ah (.sl (.int .i64)) c.2.2.2.1+(ah (.sl dh) c.2.2.2.2.1+ah (.sl bW) c.2.2.2.2.2.1)))):=rfl
theorem Xw {c:aL} {N:Nat} (hw:wf bM c) (hb:ah bM c≤1048576) (hN:2*ah bM c+8<N):br c N:=by
 have hs:=vn c
 have h1:=aO (t:=bo) c.1
 have h2:=aO (t:=bY) c.2.1
 have h3:=aO (t:=aP) c.2.2.1
 have h4:=aO (t:=.int .i64) c.2.2.2.1
 have h5:=aO (t:=dh) c.2.2.2.2.1
 have h6:=aO (t:=bW) c.2.2.2.2.2.1
 have hm:=ar
 exact⟨by omega,Oc hw.1 (by omega),by omega,by omega,JI hw.2.1 (by omega),by omega,by omega,by omega,by omega,by omega,by omega,by omega,by omega,by omega,by omega,by omega,fun x hx=>by
  have q1:=ba (t:=bo) hx
  have q2:ah bo x=ah (.sl (.int .i64)) x.2.2.2.2.2:=by simp[ah]
  have q3:=aO (t:=.int .i64) x.2.2.2.2.2
  show x.2.2.2.2.2.length≤1048700
  omega,by omega,fun x hx=>by
  have q1:=ba (t:=bY) hx
  have q2:ah bY x=ah (.sl (.int .i64)) x.2.2:=by simp[ah]
  have q3:=aO (t:=.int .i64) x.2.2
  omega⟩
def mw (b:eY):Bool:=(decide ((b.1:Int)=0))&&((decide ((b.2.1:Int)=0))&&(decide ((b.2.2:Int)=0)))
def ki (c:aL) (i:Nat) (b:eY):Bool:=mw b||(cf b&&(b.1==c.2.2.2.1.getD i 0))
def cj (c:aL):Bool:=aG c.1&&(bZ c.2.1&&(hZ c.2.2.2.2.2.1&&(decide (c.2.2.2.1.length=c.2.2.1.length)&&(decide (c.2.2.2.2.1.length=c.2.2.1.length)&&
 ((decide (c.2.2.1.length=0)||(jg c.1 c.2.2.1&&dJ c.1 c.2.1 c.2.2.1 c.2.2.2.1))&&(allI (ki c) c.2.2.2.2.1 0&&(gO c.2.2.2.2.2.2 0 1000&&(qe c.1==c.2.2.2.2.2.2))))))))
theorem afP {a b:Nat}:((a:Int) != (b:Int))=!decide (a=b):=by
 apply Bool.eq_iff_iff.2
 simp
 omega
theorem Ii {N:Nat} {c:aL} {kf:Bool→Option aa} (h:br c N) (hs:c.2.2.2.1.length=c.2.2.1.length) (hb:c.2.2.2.2.1.length=c.2.2.1.length):Jj N c kf=kf (allI (ki c) c.2.2.2.2.1 0&&(gO c.2.2.2.2.2.2 0 1000&&(qe c.1==c.2.2.2.2.2.2))):=by
 have hm:=ar
 have:=h.bl
 unfold Jj
 rw[afr (by omega) h.bN,fQ (l:=c.2.2.2.2.1) (p:=ki c) (kf:=kf false) (fun i b next hi e=>?_) c.2.2.2.2.1 0 rfl]
 ·cases allI (ki c) c.2.2.2.2.1 0
  ·rfl
  rw[cond_true,ni]
  cases gO c.2.2.2.2.2.2 0 1000
  ·rfl
  simp only[cond_true,Bool.true_and]
  rw[al3 h.tl h.tm h.tN]
  rfl
 ·rw[JK,an (by omega),cond_true,Int.toNat_natCast]
  unfold ki mw
  cases (decide ((b.1:Int)=0))&&((decide ((b.2.1:Int)=0))&&(decide ((b.2.2:Int)=0)))
  ·simp only[Bool.not_false,cond_true,Bool.false_or]
   cases cf b
   ·rfl
   ·cases hc:b.1==c.2.2.2.1.getD i 0<;>simp only[bne,hc,Bool.not_true,Bool.not_false,cond_true,cond_false,Bool.and_true,Bool.and_false]
  ·rfl
theorem FZ {N:Nat} {c:aL} {kf:Bool→Option aa} (h:br c N) (hs:c.2.2.2.1.length=c.2.2.1.length) (hb:c.2.2.2.2.1.length=c.2.2.1.length):DI N c kf=kf (allI (ki c) c.2.2.2.2.1 0):=by
 have hm:=ar
 have:=h.bl
 unfold DI
 rw[abv (by omega) h.bN,fQ (l:=c.2.2.2.2.1) (p:=ki c) (kf:=kf false) (fun i b next hi e=>?_) c.2.2.2.2.1 0 rfl]
 ·cases allI (ki c) c.2.2.2.2.1 0<;>rfl
 ·rw[JJ,an (by omega),cond_true,Int.toNat_natCast]
  unfold ki mw
  cases (decide ((b.1:Int)=0))&&((decide ((b.2.1:Int)=0))&&(decide ((b.2.2:Int)=0)))
  ·simp only[Bool.not_false,cond_true,Bool.false_or]
   cases cf b
   ·rfl
   ·cases hc:b.1==c.2.2.2.1.getD i 0<;>simp only[bne,hc,Bool.not_true,Bool.not_false,cond_true,cond_false,Bool.and_true,Bool.and_false]
  ·rfl
theorem F0 {N:Nat} {c:aL} {kf:Bool→Option aa} (h:br c N):I39 N c kf=kf (cj c):=by
 have hm:=ar
 have MF:=h.ml
 have h8:=h.n8
 have hr:=h.rl
 have hrN:=h.rN
 unfold I39 cj
 rw[lB h.tl h.tm h.tN]
 cases aG c.1
 ·rfl
 simp only[Bool.not_true,cond_false,Bool.true_and]
 rw[Tm h.jl h.jm h.jN]
 cases bZ c.2.1
 ·rfl
 simp only[Bool.not_true,cond_false,Bool.true_and]
 rw[afL (by omega) h.mN (by omega)]
 cases hZ c.2.2.2.2.2.1
 ·rfl
 simp only[Bool.not_true,cond_false,Bool.true_and,afP]
 by_cases hs:c.2.2.2.1.length=c.2.2.1.length
 rotate_left
 ·rw[decide_eq_false hs];rfl
 by_cases hb:c.2.2.2.2.1.length=c.2.2.1.length
 rotate_left
 ·rw[decide_eq_false hb,decide_eq_true hs];rfl
 rw[decide_eq_true hs,decide_eq_true hb]
 simp only[Bool.not_true,cond_false,Bool.true_and]
 unfold I16
 by_cases h0:c.2.2.1.length=0
 ·rw[decide_eq_false (by omega)]
  simp only[cond_false]
  rw[Ii h hs hb,decide_eq_true h0]
  rfl
 ·rw[decide_eq_true (by omega)]
  simp only[cond_true]
  rw[av3 h.tl h.tm h.tN h.rl h.rN,decide_eq_false h0]
  cases jg c.1 c.2.2.1
  ·rfl
  simp only[Bool.not_true,cond_false,Bool.true_and,Bool.false_or]
  rw[av5 h.tl h.tN h.jl h.jm h.jN (by omega) (by omega) (by omega)]
  cases dJ c.1 c.2.1 c.2.2.1 c.2.2.2.1
  ·rfl
  simp only[Bool.not_true,cond_false,Bool.true_and]
  exact Ii h hs hb
theorem DK {N:Nat} {c:aL} {kf:Bool→Option aa} (h:br c N):Td N c kf=kf (cj c):=by
 have hm:=ar
 have MF:=h.ml
 have h8:=h.n8
 have hr:=h.rl
 have hrN:=h.rN
 unfold Td cj
 rw[kg h.tl h.tm h.tN]
 cases aG c.1
 ·rfl
 simp only[Bool.not_true,cond_false,Bool.true_and]
 rw[JH h.jl h.jm h.jN]
 cases bZ c.2.1
 ·rfl
 simp only[Bool.not_true,cond_false,Bool.true_and]
 rw[Xp (by omega) h.mN (by omega)]
 cases hZ c.2.2.2.2.2.1
 ·rfl
 simp only[Bool.not_true,cond_false,Bool.true_and,afP]
 by_cases hs:c.2.2.2.1.length=c.2.2.1.length
 rotate_left
 ·rw[decide_eq_false hs];rfl
 by_cases hb:c.2.2.2.2.1.length=c.2.2.1.length
 rotate_left
 ·rw[decide_eq_false hb,decide_eq_true hs];rfl
 rw[decide_eq_true hs,decide_eq_true hb]
 simp only[Bool.not_true,cond_false,Bool.true_and,lA]
 cases gO c.2.2.2.2.2.2 0 1000
 ·simp
 simp only[Bool.not_true,cond_false,Bool.true_and]
 rw[al2 h.tl h.tm h.tN]
 show(bif qe c.1 != c.2.2.2.2.2.2 then kf false else _)=_
 cases ht:qe c.1==c.2.2.2.2.2.2
 ·simp only[bne,ht,Bool.not_false,cond_true,Bool.and_false]
 simp only[bne,ht,Bool.not_true,cond_false,Bool.and_true]
 by_cases h0:c.2.2.1.length=0
 ·rw[decide_eq_false (by omega),cond_false,FZ h hs hb,decide_eq_true h0]
  rfl
 ·rw[decide_eq_true (by omega),cond_true,al4 h.tl h.tm h.tN h.rl h.rN,decide_eq_false h0]
  cases jg c.1 c.2.2.1
  ·rfl
  simp only[Bool.not_true,cond_false,Bool.true_and,Bool.false_or]
  rw[al5 h.tl h.tN h.jl h.jm h.jN (by omega) (by omega)]
  cases dJ c.1 c.2.1 c.2.2.1 c.2.2.2.1
  ·rfl
  simp only[Bool.not_true,cond_false,Bool.true_and]
  exact FZ h hs hb
def bw (c:aL):List Int:=kh (fun _ b=>mw b) (fun i _=>(i:Int)) c.2.2.2.2.1 0
theorem al6 {N:Nat} {c:aL} {kf:List Int→Option aa} (h:br c N):alj N c kf=kf (bw c):=by
 have hm:=ar
 have:=h.bl
 unfold alj
 rw[abC (by omega) h.bN,kH (l:=c.2.2.2.2.1) (c:=fun _ b=>mw b) (f:=fun i _=>(i:Int)) (fun i b s next hi e hs=>?_) c.2.2.2.2.1 0 [] rfl (by simp),List.nil_append]
 ·rfl
 ·have iz:decide ((List.length s+List.length [(i:Int)])*1≤4398046511104)=true:=decide_eq_true (by simp;omega)
  rw[iz,cond_true]
  rfl
theorem av6 {N:Nat} {c:aL} {kf:List Int→Option aa} (h:br c N):I41 N c kf=kf (bw c):=by
 have hm:=ar
 have:=h.bl
 unfold I41
 rw[afu (by omega) h.bN,kH (l:=c.2.2.2.2.1) (c:=fun _ b=>mw b) (f:=fun i _=>(i:Int)) (fun i b s next hi e hs=>?_) c.2.2.2.2.1 0 [] rfl (by simp),List.nil_append]
 ·rfl
 ·have iz:decide ((List.length s+List.length [(i:Int)])*1≤4398046511104)=true:=decide_eq_true (by simp;omega)
  rw[iz,cond_true]
  rfl
theorem JM {a b c:Int}:gO a b c=true↔b≤a∧a≤c:=by unfold gO;simp
end Go.Pv.R
namespace Go.Pv
set_option linter.unusedVariables false
set_option linter.unusedSimpArgs false
end Go.Pv
namespace Go.Pv.R
set_option linter.unusedVariables false
set_option linter.unusedSimpArgs false
end Go.Pv.R
namespace Go.Pv.R
set_option linter.unusedVariables false
set_option linter.unusedSimpArgs false
end Go.Pv.R
namespace Go.Pv.R
set_option linter.unusedVariables false
set_option linter.unusedSimpArgs false
theorem CO {α:Type}:∀ (l:List α) (i:Nat),kh (fun _ _=>true) (fun _ x=>x) l i=l
 |[],_=>rfl
 |x::r,i=>by simp only[kh,cond_true];rw[CO r (i+1)]
theorem s8 {α:Type} {body:Nat→α→List α→(List α→Option aa)→Option aa} {bF:List α→Option aa} {l:List α}
  (hb:∀ (i:Nat) (x:α) (s:List α) (next:List α→Option aa) (h:i<l.length),l[i]=x→s.length≤i→body i x s next=next (s++[x])):bQ body bF l 0 []=bF l:=by
 rw[kH (l:=l) (c:=fun _ _=>true) (f:=fun _ x=>x) (fun i x s next h e hs=>by rw[hb i x s next h e hs];rfl) l 0 [] rfl (by simp),CO,List.nil_append]
theorem oq {α:Type} {l:List α} {b:Bool} {kf:List α→Option aa} (hb:b=true):
  (bif List.isEmpty l then both (kf []) (bif b then kf ([]++l) else none) else bif b then kf ([]++l) else none)=kf l:=by
 subst hb
 cases l with
 |nil=>exact lI _
 |cons x r=>rfl
theorem DL {N:Nat} {l:List Int} {kf:List Int→Option aa} (hl:l.length≤1048700):Jc N l kf=kf l:=by
 exact oq (decide_eq_true (by simp only[List.length_nil];omega))
theorem al7 {N:Nat} {l:List a8} {kf:List a8→Option aa} (hl:l.length≤1048576):akG N l kf=kf l:=oq (decide_eq_true (by simp only[List.length_nil];omega))
theorem al8 {N:Nat} {l:List QB} {kf:List QB→Option aa} (hl:l.length≤1048576):akH N l kf=kf l:=oq (decide_eq_true (by simp only[List.length_nil];omega))
theorem JN {N:Nat} {l:List QL} {kf:List QL→Option aa} (hl:l.length≤1048576):aaB N l kf=kf l:=oq (decide_eq_true (by simp only[List.length_nil];omega))
theorem qg {N:Nat} {l:List aB} {kf:List aB→Option aa} (hl:l.length≤1048700) (hm:∀ x:aB,x∈l→x.met.length≤1048700) (hN:l.length<N):FC N l kf=kf l:=by
 have h0:=ar
 unfold FC
 rw[abe (by omega) hN]
 refine s8 (l:=l) fun i x s next h e hs=>?_
 have hx:x∈l:=by rw[←e];exact List.getElem_mem h
 have hxm:x.2.2.2.2.2.length≤1048700:=hm x hx
 rw[decide_eq_true (by simp only[List.length_nil];omega),decide_eq_true (by simp only[List.length_cons,List.length_nil];omega)]
 rfl
theorem JO {N:Nat} {l:List aZ} {kf:List aZ→Option aa} (hl:l.length≤1048700) (hm:∀ x:aZ,x∈l→x.2.2.length≤1048700) (hN:l.length<N):SX N l kf=kf l:=by
 have h0:=ar
 unfold SX
 rw[abf (by omega) hN]
 refine s8 (l:=l) fun i x s next h e hs=>?_
 have hx:x∈l:=by rw[←e];exact List.getElem_mem h
 have hxm:x.2.2.length≤1048700:=hm x hx
 rw[decide_eq_true (by simp only[List.length_nil];omega),decide_eq_true (by simp only[List.length_cons,List.length_nil];omega)]
 rfl
theorem JP {N:Nat} {l:List aB} {kf:List aB→Option aa} (hl:l.length≤1048700) (hm:∀ x:aB,x∈l→x.met.length≤1048700) (hN:l.length<N):Sy N l kf=kf l:=by
 have h0:=ar
 unfold Sy
 rw[aa1 (by omega) hN]
 refine s8 (l:=l) fun i x s next h e hs=>?_
 have hx:x∈l:=by rw[←e];exact List.getElem_mem h
 have hxm:x.2.2.2.2.2.length≤1048700:=hm x hx
 rw[DL hxm,decide_eq_true (by simp only[List.length_cons,List.length_nil];omega)]
 rfl
theorem al9 {N:Nat} {l:List aZ} {kf:List aZ→Option aa} (hl:l.length≤1048700) (hm:∀ x:aZ,x∈l→x.2.2.length≤1048700) (hN:l.length<N):akF N l kf=kf l:=by
 have h0:=ar
 unfold akF
 rw[aa2 (by omega) hN]
 refine s8 (l:=l) fun i x s next h e hs=>?_
 have hx:x∈l:=by rw[←e];exact List.getElem_mem h
 have hxm:x.2.2.length≤1048700:=hm x hx
 rw[DL hxm,decide_eq_true (by simp only[List.length_cons,List.length_nil];omega)]
 rfl
theorem qh {N:Nat} {c:aL} {kf:aL→Option aa} (h:br c N):SY N c kf=kf c:=by
 have h0:=ar
 have h1:=h.rl
 have h2:=h.sl
 have h3:=h.bl
 have h4:=h.ml
 unfold SY
 rw[qg h.tb h.tmb h.tN,JO h.jb h.jmb h.jN,decide_eq_true (by simp only[List.length_nil];omega),decide_eq_true (by simp only[List.length_nil];omega),decide_eq_true (by simp only[List.length_nil];omega),decide_eq_true (by simp only[List.length_nil];omega)]
 rfl
theorem my {N:Nat} {c:aL} {kf:aL→Option aa} (h:br c N):H8 N c kf=kf c:=by
 have h0:=ar
 have h2:=h.sl
 unfold H8
 rw[JP h.tb h.tmb h.tN,al9 h.jb h.jmb h.jN,al7 h.rl,DL (by omega),al8 h.bl,JN h.ml]
abbrev rW:=QL
def Ij (l:List rW):Int:=(l.getLast?.map fun x=>x.2.2.2).getD 0
theorem afQ {l:List rW} (h0:l≠[]):Ij l=(List.getD l (l.length - 1) mf).2.2.2:=by
 unfold Ij
 rw[List.getLast?_eq_getElem?]
 have h1:l.length - 1<l.length:=by
  cases l with
  |nil=>exact absurd rfl h0
  |cons x r=>simp
 rw[List.getD_eq_getElem?_getD,List.getElem?_eq_getElem h1]
 rfl
theorem Of {l:List rW} {kf:Int→Option aa} (hl:l.length≤maxLen):(bif ((List.length l:Int)==(0:Int)) then kf (0:Int) else
  bif (aM (IntKind.wrap .i64 ((List.length l:Int) - (1:Int))) (List.length l)) then kf (List.getD l (Int.toNat (IntKind.wrap .i64 ((List.length l:Int) - (1:Int)))) mf).2.2.2 else none)=kf (Ij l):=by
 have hm:=ar
 cases l with
 |nil=>rfl
 |cons x r=>
  have e1:((List.length (x::r):Int)==(0:Int))=false:=by simp only[List.length_cons];exact beq_eq_false_iff_ne.2 (by omega)
  rw[wrap64 (n:=(List.length (x::r):Int) - 1) (by omega) (by omega)]
  have e2:(List.length (x::r):Int) - 1=((List.length (x::r) - 1:Nat):Int):=by simp only[List.length_cons];omega
  rw[e1,e2,an (by simp),afQ (by simp)]
  simp only[cond_true,cond_false,Int.toNat_natCast]
theorem al' {N:Nat} {l:List rW} {kf:Int→Option aa} (hl:l.length≤maxLen):avj N l kf=kf (Ij l):=Of hl
theorem ama {N:Nat} {l:List rW} {kf:Int→Option aa} (hl:l.length≤maxLen):auZ N l kf=kf (Ij l):=Of hl
def Xx (l:List rW) (cQ iI:Int):rW:=((l.length:Int)+1,(cQ,(iI,CM (Ij l) ((l.length:Int)+1,(cQ,(iI,0))))))
def kR (l:List rW) (cQ iI:Int):Bool:=hZ (l++[Xx l cQ iI])
def kS (l:List rW) (cQ iI:Int):List rW:=bif kR l cQ iI then l++[Xx l cQ iI] else l
theorem Ik {l:List rW} {cQ iI:Int} (h:kR l cQ iI=true):(kS l cQ iI).length≤200:=by
 unfold kS
 rw[h]
 unfold kR hZ at h
 simp only[Bool.and_eq_true,decide_eq_true_eq] at h
 exact h.1
theorem amb {N:Nat} {l:List rW} {cQ iI:Int} {kf:List rW→Bool→Option aa} (hl:l.length≤1048576) (hN:l.length+1<N) (h4:4<N):ala N l cQ iI kf=kf (kS l cQ iI) (kR l cQ iI):=by
 have hm:=ar
 unfold ala
 rw[al' (by omega),Xn h4,wrap64 (n:=(List.length l:Int)+1) (by omega) (by omega),decide_eq_true (by simp only[List.length_nil];omega)]
 simp only[List.nil_append,cond_true]
 rw[decide_eq_true (by simp only[List.length_cons,List.length_nil];omega),cond_true,Xp (by simp only[List.length_append,List.length_cons,List.length_nil];omega) (by simp only[List.length_append,List.length_cons,List.length_nil];omega) h4]
 show(bif (!kR l cQ iI) then kf l false else kf (l++[Xx l cQ iI]) true)=_
 unfold kS
 cases kR l cQ iI<;>rfl
theorem amc {N:Nat} {l:List rW} {cQ iI:Int} {kf:List rW→Bool→Option aa} (hl:l.length≤1048576) (hN:l.length+1<N) (h4:4<N):akN N l cQ iI kf=kf (kS l cQ iI) (kR l cQ iI):=by
 have hm:=ar
 unfold akN
 rw[ama (by omega),Xo h4,wrap64 (n:=(List.length l:Int)+1) (by omega) (by omega),JN hl,decide_eq_true (by simp only[List.length_cons,List.length_nil];omega),cond_true,afL (by simp only[List.length_append,List.length_cons,List.length_nil];omega) (by simp only[List.length_append,List.length_cons,List.length_nil];omega) h4,JN hl]
 show(bif (!kR l cQ iI) then kf l false else kf (l++[Xx l cQ iI]) true)=_
 unfold kS
 cases kR l cQ iI<;>rfl
def qi (c:aL) (l:List rW):aL:=(c.1,(c.2.1,(c.2.2.1,(c.2.2.2.1,(c.2.2.2.2.1,(l,c.2.2.2.2.2.2))))))
def fc (c out:aL) (cQ iI:Int):Bool:=kR c.2.2.2.2.2.1 cQ iI&&(cj c&&cj (qi out (kS c.2.2.2.2.2.1 cQ iI)))
def gC (c out:aL) (cQ iI:Int):aL:=bif fc c out cQ iI then qi out (kS c.2.2.2.2.2.1 cQ iI) else c
theorem F3 {c:aL} {N:Nat} {l:List rW} (h:br c N) (hl:l.length≤200) (hN:200<N):br (qi c l) N:=
 ⟨h.tl,h.tm,h.tN,h.jl,h.jm,h.jN,h.rl,h.rN,h.sl,h.sN,h.bl,h.bN,by show l.length≤_;omega,by show l.length<_;omega,h.n8,h.tb,h.tmb,h.jb,h.jmb⟩
theorem vo {N:Nat} {c out:aL} {ok:Bool} {cQ iI:Int} {kf:aL→Bool→Option aa} (h:br c N) (ho:ok=true→br out N) (hN:200<N) (hl:c.2.2.2.2.2.1.length+1<N):
  S93 N c out ok cQ iI kf=bif ok then kf (gC c out cQ iI) (fc c out cQ iI) else kf c false:=by
 have h8:=h.n8
 unfold S93
 rw[amb h.ml hl (by omega)]
 simp only[qh h,DK h]
 cases ok with
 |false=>rfl
 |true=>
  unfold gC fc
  cases hw:kR c.2.2.2.2.2.1 cQ iI with
  |false=>rfl
  |true=>
   cases hc:cj c with
   |false=>rfl
   |true=>
    have:=DK (N:=N) (kf:=fun r=>bif !r then kf c false else kf (qi out (kS c.2.2.2.2.2.1 cQ iI)) true) (F3 (ho rfl) (Ik hw) hN)
    refine this.trans ?_
    simp only[Bool.true_and]
    cases cj (qi out (kS c.2.2.2.2.2.1 cQ iI))<;>rfl
theorem s9 {N:Nat} {c out:aL} {cQ iI:Int} {kf:aL→Bool→Option aa} (h:br c N) (ho:br out N) (he:out.2.2.2.2.2.1=c.2.2.2.2.2.1) (hN:200<N) (hl:c.2.2.2.2.2.1.length+1<N):
  Jk N c out cQ iI kf=kf (gC c out cQ iI) (fc c out cQ iI):=by
 have h8:=h.n8
 unfold Jk
 rw[he,amc h.ml hl (by omega)]
 simp only[my h,F0 h]
 unfold gC fc
 cases hw:kR c.2.2.2.2.2.1 cQ iI with
 |false=>rfl
 |true=>
  cases hc:cj c with
  |false=>rfl
  |true=>
   have:=F0 (N:=N) (kf:=fun r=>bif !r then kf c false else kf (qi out (kS c.2.2.2.2.2.1 cQ iI)) true) (F3 ho (Ik hw) hN)
   refine this.trans ?_
   simp only[Bool.true_and]
   cases cj (qi out (kS c.2.2.2.2.2.1 cQ iI))<;>rfl
theorem nj {c:aL} (h:cj c=true):c.2.2.2.1.length=c.2.2.1.length∧c.2.2.2.2.1.length=c.2.2.1.length:=by
 unfold cj at h
 simp only[Bool.and_eq_true,decide_eq_true_eq] at h
 exact⟨h.2.2.2.1,h.2.2.2.2.1⟩
def rX (c:aL) (p f s:Int):eY:=(c.2.2.2.1.getD p.toNat 0,(f,s))
def amd (c:aL) (l:List eY):aL:=(c.1,(c.2.1,(c.2.2.1,(c.2.2.2.1,(l,c.2.2.2.2.2)))))
def xJ (c:aL) (p f s:Int):Bool:=cj c&&((decide (0≤p)&&decide (p<c.2.2.1.length))&&(mw (c.2.2.2.2.1.getD p.toNat fu)&&cf (rX c p f s)))
def tW (c:aL) (p f s:Int):aL:=amd c (c.2.2.2.2.1.set p.toNat (rX c p f s))
theorem Og {c:aL} {N:Nat} (h:br c N) (p f s:Int):br (tW c p f s) N:=
 ⟨h.tl,h.tm,h.tN,h.jl,h.jm,h.jN,h.rl,h.rN,h.sl,h.sN,by show(List.set _ _ _).length≤_;rw[List.length_set];exact h.bl,by show(List.set _ _ _).length<_;rw[List.length_set];exact h.bN,h.ml,h.mN,h.n8,h.tb,h.tmb,h.jb,h.jmb⟩
theorem ame {N:Nat} {c:aL} {p f s:Int} {kf:aL→Bool→Option aa} (h:br c N) (hN:200<N) (hl:c.2.2.2.2.2.1.length+1<N):
  alp N c p f s kf=bif xJ c p f s then kf (gC c (tW c p f s) 4 (rX c p f s).1) (fc c (tW c p f s) 4 (rX c p f s).1) else kf c false:=by
 have hm:=ar
 have hr:=h.rl
 unfold alp
 rw[qh h,DK h]
 unfold xJ
 cases hc:cj c with
 |false=>rfl
 |true=>
  obtain⟨l1,l2⟩:=nj hc
  simp only[Bool.not_true,cond_false,Bool.true_and]
  rw[wrap64 (n:=(List.length c.2.2.1:Int) - 1) (by omega) (by omega),lA]
  by_cases hp:0≤p∧p<c.2.2.1.length
  rotate_left
  ·have e1:gO p 0 ((List.length c.2.2.1:Int) - 1)=false:=by
    cases hx:gO p 0 ((List.length c.2.2.1:Int) - 1) with
    |false=>rfl
    |true=>rw[JM] at hx;exact absurd ⟨hx.1,by omega⟩ hp
   have e2:(decide (0≤p)&&decide (p<c.2.2.1.length))=false:=by
    cases hx:(decide (0≤p)&&decide (p<c.2.2.1.length)) with
    |false=>rfl
    |true=>simp only[Bool.and_eq_true,decide_eq_true_eq] at hx;exact absurd hx hp
   rw[e1,e2]
   rfl
  ·obtain⟨hp0,hp1⟩:=hp
   obtain⟨i,rfl⟩:∃ i:Nat,p=(i:Int):=⟨p.toNat,by omega⟩
   have e1:gO (i:Int) 0 ((List.length c.2.2.1:Int) - 1)=true:=JM.2 ⟨by omega,by omega⟩
   have e2:(decide (0≤(i:Int))&&decide ((i:Int)<c.2.2.1.length))=true:=by simp only[Bool.and_eq_true,decide_eq_true_eq];omega
   rw[e1,e2]
   simp only[Bool.not_true,cond_false,Bool.true_and,Int.toNat_natCast,List.length_set]
   rw[an (show i<c.2.2.2.2.1.length by omega),an (show i<c.2.2.2.1.length by omega)]
   simp only[cond_true]
   have e3:List.getD (List.set c.2.2.2.2.1 i (List.getD c.2.2.2.1 i (0:Int),(f,s))) i fu=(List.getD c.2.2.2.1 i (0:Int),(f,s)):=by
    rw[List.getD_eq_getElem?_getD,List.getElem?_set_self (by omega)]
    rfl
   rw[e3,JJ]
   show(bif !mw (List.getD c.2.2.2.2.1 i fu) then kf c false else _)=_
   cases mw (List.getD c.2.2.2.2.1 i fu) with
   |false=>rfl
   |true=>
    simp only[Bool.not_true,cond_false,Bool.true_and]
    exact vo (out:=tW c (i:Int) f s) h (fun _=>Og h _ _ _) hN hl
theorem av7 {N:Nat} {c:aL} {p f s:Int} {kf:aL→Bool→Option aa} (h:br c N) (hN:200<N) (hl:c.2.2.2.2.2.1.length+1<N):
  I35 N c p f s kf=bif xJ c p f s then kf (gC c (tW c p f s) 4 (rX c p f s).1) (fc c (tW c p f s) 4 (rX c p f s).1) else kf c false:=by
 have hm:=ar
 have hr:=h.rl
 unfold I35
 rw[my h,F0 h]
 unfold xJ
 cases hc:cj c with
 |false=>rfl
 |true=>
  obtain⟨l1,l2⟩:=nj hc
  simp only[Bool.not_true,cond_false,Bool.true_and]
  by_cases hp:0≤p∧p<c.2.2.1.length
  rotate_left
  ·have e2:(decide (0≤p)&&decide (p<c.2.2.1.length))=false:=by
    cases hx:(decide (0≤p)&&decide (p<c.2.2.1.length)) with
    |false=>rfl
    |true=>simp only[Bool.and_eq_true,decide_eq_true_eq] at hx;exact absurd hx hp
   rw[e2]
   by_cases h0:p<0
   ·rw[decide_eq_true h0];rfl
   ·rw[decide_eq_false h0,decide_eq_true (show p≥(List.length c.2.2.1:Int) by omega)];rfl
  ·obtain⟨hp0,hp1⟩:=hp
   obtain⟨i,rfl⟩:∃ i:Nat,p=(i:Int):=⟨p.toNat,by omega⟩
   have e2:(decide (0≤(i:Int))&&decide ((i:Int)<c.2.2.1.length))=true:=by simp only[Bool.and_eq_true,decide_eq_true_eq];omega
   rw[decide_eq_false (show ¬(i:Int)<0 by omega),decide_eq_false (show ¬(i:Int)≥(List.length c.2.2.1:Int) by omega),e2]
   simp only[cond_false,Bool.true_and,Int.toNat_natCast]
   rw[an (show i<c.2.2.2.2.1.length by omega),an (show i<c.2.2.2.1.length by omega),JK]
   simp only[cond_true]
   show(bif !mw (List.getD c.2.2.2.2.1 i fu) then kf c false else _)=_
   cases mw (List.getD c.2.2.2.2.1 i fu) with
   |false=>rfl
   |true=>
    simp only[Bool.not_true,cond_false,Bool.true_and]
    show(bif !cf (rX c (i:Int) f s) then kf c false else _)=_
    cases cf (rX c (i:Int) f s) with
    |false=>rfl
    |true=>exact s9 (out:=tW c (i:Int) f s) h (Og h _ _ _) rfl hN hl
end Go.Pv.R
namespace Go.Pv
set_option linter.unusedVariables false
set_option linter.unusedSimpArgs false
abbrev DM (l:List Int):Prop:=l.Pairwise (· < ·)
theorem Xy:∀ {a b:List Int},DM a→DM b→(∀ x,x∈a↔x∈b)→a=b
 |[],[],_,_,_=>rfl
 |[],y::b,_,_,h=>by have:=(h y).2 (by simp);simp at this
 |x::a,[],_,_,h=>by have:=(h x).1 (by simp);simp at this
 |x::a,y::b,ha,hb,h=>by
  rw[DM,List.pairwise_cons] at ha hb
  have hxy:x=y:=by
   have h1:=(h x).1 (by simp)
   have h2:=(h y).2 (by simp)
   rcases List.mem_cons.1 h1 with h1 |h1
   ·exact h1
   ·rcases List.mem_cons.1 h2 with h2 |h2
    ·exact h2.symm
    ·have:=hb.1 x h1
     have:=ha.1 y h2
     omega
  subst hxy
  congr 1
  refine Xy ha.2 hb.2 fun z=>?_
  constructor
  ·intro hz
   rcases List.mem_cons.1 ((h z).1 (by simp[hz])) with e |e
   ·subst e;have:=ha.1 z hz;omega
   ·exact e
  ·intro hz
   rcases List.mem_cons.1 ((h z).2 (by simp[hz])) with e |e
   ·subst e;have:=hb.1 z hz;omega
   ·exact e
def kT:List Int→Int→List Int
 |[],n=>[n]
 |x::r,n=>bif decide (x<n) then x::kT r n else bif x==n then x::r else n::x::r
theorem xK:∀ (l:List Int) (n x:Int),x∈kT l n↔x=n∨x∈l
 |[],n,x=>by simp[kT]
 |y::r,n,x=>by
  simp only[kT]
  by_cases h:y<n
  ·rw[decide_eq_true h,cond_true,List.mem_cons,xK r n x,List.mem_cons]
   constructor
   ·rintro(h |h |h)<;>simp[h]
   ·rintro(h |h |h)<;>simp[h]
  ·rw[decide_eq_false h,cond_false]
   by_cases e:y=n
   ·subst e;simp
   ·rw[beq_eq_false_iff_ne.2 e,cond_false];simp
theorem rY:∀ {l:List Int} {n:Int},DM l→DM (kT l n)
 |[],n,_=>by simp[kT,DM]
 |y::r,n,h=>by
  rw[DM,List.pairwise_cons] at h
  simp only[kT]
  by_cases hy:y<n
  ·rw[decide_eq_true hy,cond_true,DM,List.pairwise_cons]
   refine⟨fun z hz=>?_,rY h.2⟩
   rcases(xK r n z).1 hz with e |e
   ·omega
   ·exact h.1 z e
  ·rw[decide_eq_false hy,cond_false]
   by_cases e:y=n
   ·subst e
    simp only[beq_self_eq_true,cond_true,DM,List.pairwise_cons]
    exact h
   ·rw[beq_eq_false_iff_ne.2 e,cond_false,DM,List.pairwise_cons,List.pairwise_cons]
    refine⟨fun z hz=>?_,h⟩
    rcases List.mem_cons.1 hz with e2 |e2
    ·omega
    ·have:=h.1 z e2;omega
theorem xL:∀ (l:List Int) (n:Int),(kT l n).length≤l.length+1
 |[],n=>by simp[kT]
 |y::r,n=>by
  simp only[kT]
  have:=xL r n
  cases decide (y<n) with
  |true=>simp only[cond_true,List.length_cons];omega
  |false=>cases y==n<;>simp
theorem abK (l:List Int) (x:Int):x∈kZ l↔x∈l:=List.mem_mergeSort
theorem afR (l:List Int):(kZ l).Pairwise (·≤·):=by
 have:=List.pairwise_mergeSort (le:=fun x y:Int=>decide (x≤y)) (fun a b c=>by simp only[decide_eq_true_eq];omega) (fun a b=>by simp only[Bool.or_eq_true,decide_eq_true_eq];omega) l
 exact this.imp fun {a b} h=>by simpa using h
theorem jT:∀ (r:List Int) (x:Int),(x::r).Pairwise (·≤·)→DM (x::c7 x r)∧∀ z,z∈x::c7 x r↔z∈x::r
 |[],x,_=>by simp[c7,DM]
 |y::r,x,h=>by
  rw[List.pairwise_cons] at h
  simp only[c7]
  by_cases e:y=x
  ·subst e
   simp only[beq_self_eq_true,cond_true]
   obtain⟨h1,h2⟩:=jT r y h.2
   refine⟨h1,fun z=>(h2 z).trans ?_⟩
   simp
  ·rw[beq_eq_false_iff_ne.2 e,cond_false]
   obtain⟨h1,h2⟩:=jT r y h.2
   have cR:x<y:=by have:=h.1 y (by simp);omega
   refine⟨?_,fun z=>?_⟩
   ·rw[DM,List.pairwise_cons]
    refine⟨fun z hz=>?_,h1⟩
    have h3:DM (y::c7 y r):=h1
    rw[DM,List.pairwise_cons] at h3
    rcases List.mem_cons.1 hz with e2 |e2
    ·omega
    ·have:=h3.1 z e2;omega
   ·rw[List.mem_cons,h2 z]
    simp only[List.mem_cons]
theorem Hk (l:List Int) (h:l.Pairwise (·≤·)):DM (dp l)∧∀ z,z∈dp l↔z∈l:=by
 cases l with
 |nil=>simp[dp,DM]
 |cons x r=>exact jT r x h
end Go.Pv
namespace Go.Pv.R
set_option linter.unusedVariables false
set_option linter.unusedSimpArgs false
def fC:List Int→Int→Nat
 |[],_=>0
 |x::r,n=>bif decide (x<n) then fC r n+1 else 0
theorem Xz:∀ (l:List Int) (n:Int),fC l n≤l.length
 |[],_=>Nat.le_refl _
 |x::r,n=>by
  simp only[fC]
  have:=Xz r n
  cases decide (x<n)<;>simp<;>omega
theorem Oh:∀ (l:List Int) (n:Int),kT l n=bif decide (fC l n<l.length)&&(l.getD (fC l n) 0==n) then l else l.take (fC l n)++[n]++l.drop (fC l n)
 |[],n=>rfl
 |x::r,n=>by
  by_cases h:x<n
  ·have hc:fC (x::r) n=fC r n+1:=by simp only[fC];rw[decide_eq_true h];rfl
   have hp:kT (x::r) n=x::kT r n:=by simp only[kT];rw[decide_eq_true h];rfl
   rw[hc,hp,Oh r n]
   simp only[List.length_cons,List.getD_cons_succ,List.take_succ_cons,List.drop_succ_cons]
   rw[show decide (fC r n+1<r.length+1)=decide (fC r n<r.length) from decide_eq_decide.2 (by omega)]
   cases (decide (fC r n<r.length)&&(r.getD (fC r n) 0==n))<;>simp
  ·have hc:fC (x::r) n=0:=by simp only[fC];rw[decide_eq_false h];rfl
   have hp:kT (x::r) n=bif x==n then x::r else n::x::r:=by simp only[kT];rw[decide_eq_false h];rfl
   rw[hc,hp]
   simp only[List.length_cons,List.getD_cons_zero,List.take_zero,List.drop_zero]
   rw[decide_eq_true (show 0<r.length+1 by omega),Bool.true_and]
   cases x==n<;>simp
theorem XA {n:Int} {k:Int→Option aa}:∀ (r:List Int) (i m:Nat),i+r.length=m→kC (fun(i:Nat) (x:Int) (next:Option aa)=>bif (decide (x<n)) then next else k (i:Int)) (k (m:Int)) r i=k ((i+fC r n:Nat):Int)
 |[],i,m,h=>by simp only[kC,fC];rw[←h];rfl
 |x::r,i,m,h=>by
  simp only[kC,fC]
  cases decide (x<n) with
  |true=>
   simp only[cond_true]
   rw[XA r (i+1) m (by simp only[List.length_cons] at h;omega)]
   congr 1
   omega
  |false=>simp only[cond_false,Nat.add_zero]
theorem XB {N:Nat} {l:List Int} {n:Int} {kf:List Int→Option aa} (hl:l.length≤1048576) (hN:l.length<N):vg N l n kf=kf (kT l n):=by
 have hm:=ar
 unfold vg
 rw[abF (by omega) hN]
 have hc:=Xz l n
 have h2:(decide ((List.length ([]:List Int)+List.length l)*1≤4398046511104))=true:=decide_eq_true (by simp only[List.length_nil];omega)
 have hj:s6 l n kf (fC l n:Int)=kf (l.take (fC l n)++[n]++l.drop (fC l n)):=by
  unfold s6
  have d1:(decide ((0:Int)≤(0:Int))&&decide ((0:Int)≤(fC l n:Int))&&decide ((fC l n:Int)≤(List.length l:Int)))=true:=by simp;omega
  have d2:(decide ((0:Int)≤(fC l n:Int))&&decide ((fC l n:Int)≤(List.length l:Int))&&decide ((List.length l:Int)≤(List.length l:Int)))=true:=by simp;omega
  rw[d1,d2]
  have e1:List.drop (Int.toNat 0) (List.take (Int.toNat (fC l n:Int)) l)=l.take (fC l n):=by simp
  have e2:List.drop (Int.toNat (fC l n:Int)) (List.take (Int.toNat (List.length l:Int)) l)=l.drop (fC l n):=by simp
  rw[e1,e2]
  have l1:(l.take (fC l n)).length=fC l n:=by rw[List.length_take];omega
  have l2:(l.drop (fC l n)).length=l.length - fC l n:=List.length_drop
  rw[decide_eq_true (by simp only[List.length_nil];omega),decide_eq_true (by simp only[List.length_append,List.length_cons,List.length_nil];omega),decide_eq_true (by simp only[List.length_append,List.length_cons,List.length_nil];omega)]
  simp only[cond_true,List.nil_append]
 have:=XA (n:=n) (k:=fun(mJ:Int)=>
  bif (decide (mJ<(List.length l:Int))) then
   bif (aM mJ (List.length l)) then
    bif ((List.getD l (Int.toNat mJ) (0:Int))==n) then
     bif (decide ((List.length ([]:(List Int))+List.length l)*1≤4398046511104)) then
      kf (([]:(List Int))++l)
     else none
    else
     s6 l n kf mJ
   else none
  else
   s6 l n kf mJ) l 0 l.length (by omega)
 refine this.trans ?_
 simp only[Nat.zero_add]
 rw[hj,Oh]
 by_cases cR:fC l n<l.length
 ·rw[decide_eq_true (show(fC l n:Int)<(List.length l:Int) by omega),decide_eq_true cR,an cR,Int.toNat_natCast,h2]
  simp only[cond_true,Bool.true_and,List.nil_append]
  cases List.getD l (fC l n) 0==n<;>rfl
 ·rw[decide_eq_false (show ¬(fC l n:Int)<(List.length l:Int) by omega),decide_eq_false cR]
  rfl
theorem amf {N:Nat} {l:List Int} {kf:List Int→Option aa} (hl:l.length≤1048576):aaM N l kf=kf (kZ l):=by
 unfold aaM
 have:Nat.blt (List.length l) 4611686018427387904=true:=Nat.ble_eq_true_of_le (by omega)
 rw[this]
 rfl
theorem amg {N:Nat} {l:List Int} {kf:List Int→Option aa}:aeN N l kf=kf (dp l):=rfl
end Go.Pv.R
namespace Go.Pv.R
set_option linter.unusedVariables false
set_option linter.unusedSimpArgs false
theorem ot {α:Type} (l:List α) (k:Nat):List.drop (Int.toNat 0) (List.take k l)=l.take k∧List.drop k (List.take (List.length l) l)=l.drop k:=by simp
def AT (c:aL) (l:List aB):aL:=(l,c.2)
def XC (c:aL) (k:Nat):aL:=AT c (c.1.take k++c.1.drop (k+1))
theorem xM {c:aL} {N:Nat} {l:List aB} (h:br c N) (hl:l.length≤1048700) (hN:l.length<N) (hm:∀ x:aB,x∈l→x.met.length≤1048700∧x.met.length<N):br (AT c l) N:=by
 have h0:=ar
 exact⟨by show l.length≤_;omega,fun x hx=>⟨by have:=(hm x hx).1;omega,(hm x hx).2⟩,hN,h.jl,h.jm,h.jN,h.rl,h.rN,h.sl,h.sN,h.bl,h.bN,h.ml,h.mN,h.n8,hl,fun x hx=>(hm x hx).1,h.jb,h.jmb⟩
theorem Oi {c:aL} {N:Nat} (h:br c N) (k:Nat):br (XC c k) N:=by
 have h1:=h.tb
 have h2:=h.tN
 have hl:(c.1.take k++c.1.drop (k+1)).length≤c.1.length:=by rw[List.length_append,List.length_take,List.length_drop];omega
 refine xM h (by omega) (by omega) fun x hx=>?_
 have xa:x∈c.1:=by
  rcases List.mem_append.1 hx with hx |hx
  ·exact List.mem_of_mem_take hx
  ·exact List.mem_of_mem_drop hx
 exact⟨h.tmb x xa,(h.tm x xa).2⟩
def rZ (c:aL) (id:Int):Bool:=decide (0≤aF c.1 id)&&(decide (c.2.2.1.length=0)&&decide ((c.1.getD (aF c.1 id).toNat ax).2.2.2.2.2.length=0))
def qj (c:aL) (id:Int):aL:=XC c (aF c.1 id).toNat
theorem amh {N:Nat} {c:aL} {id:Int} {kf:aL→Bool→Option aa} (h:br c N) (hN:200<N) (hl:c.2.2.2.2.2.1.length+1<N):
  alq N c id kf=bif rZ c id then kf (gC c (qj c id) 6 id) (fc c (qj c id) 6 id) else kf c false:=by
 have hm:=ar
 have htb:=h.tb
 unfold alq
 rw[qh h,jf h.tl h.tN]
 unfold S94 rZ qj
 by_cases hf:aF c.1 id<0
 ·rw[decide_eq_true hf,decide_eq_false (show ¬ 0≤aF c.1 id by omega)]
  rfl
 ·obtain⟨k,hk,he,_⟩:=b7 (p:=fun x:aB=>x.1==id) (l:=c.1) hf
  have he':aF c.1 id=(k:Int):=he
  rw[he',decide_eq_false (show ¬(k:Int)<0 by omega),decide_eq_true (show 0≤(k:Int) by omega)]
  simp only[cond_false,Bool.true_and,Int.toNat_natCast]
  by_cases hr:c.2.2.1.length=0
  rotate_left
  ·rw[decide_eq_true (show(List.length c.2.2.1:Int)>0 by omega),decide_eq_false hr]
   rfl
  ·rw[decide_eq_false (show ¬(List.length c.2.2.1:Int)>0 by omega),decide_eq_true hr,an hk]
   simp only[cond_false,cond_true,Bool.true_and]
   by_cases afS:(c.1.getD k ax).2.2.2.2.2.length=0
   rotate_left
   ·rw[decide_eq_true (show(List.length (c.1.getD k ax).2.2.2.2.2:Int)>0 by omega),decide_eq_false afS]
    rfl
   ·rw[decide_eq_false (show ¬(List.length (c.1.getD k ax).2.2.2.2.2:Int)>0 by omega),decide_eq_true afS,wrap64 (n:=(k:Int)+1) (by omega) (by omega)]
    have d1:(decide ((0:Int)≤(0:Int))&&true&&decide ((k:Int)≤(List.length c.1:Int)))=true:=by simp;omega
    have d2:(decide ((0:Int)≤(k:Int)+1)&&decide ((k:Int)+1≤(List.length c.1:Int))&&decide ((List.length c.1:Int)≤(List.length c.1:Int)))=true:=by simp;omega
    have e3:Int.toNat ((k:Int)+1)=k+1:=by omega
    rw[d1,d2,e3,(ot c.1 k).1,(ot c.1 (k+1)).2]
    simp only[cond_true,cond_false]
    have l1:(c.1.take k).length≤c.1.length:=by rw[List.length_take];omega
    have l2:(c.1.drop (k+1)).length≤c.1.length:=by rw[List.length_drop];omega
    rw[qg (by omega) (fun x hx=>h.tmb x (List.mem_of_mem_take hx)) (by have:=h.tN;omega),qg (by omega) (fun x hx=>h.tmb x (List.mem_of_mem_drop hx)) (by have:=h.tN;omega),decide_eq_true (by omega),cond_true]
    exact vo (out:=XC c k) h (fun _=>Oi h k) hN hl
theorem av8 {N:Nat} {c:aL} {id:Int} {kf:aL→Bool→Option aa} (h:br c N) (hN:200<N) (hl:c.2.2.2.2.2.1.length+1<N):
  I38 N c id kf=bif rZ c id then kf (gC c (qj c id) 6 id) (fc c (qj c id) 6 id) else kf c false:=by
 have hm:=ar
 have htb:=h.tb
 unfold I38
 rw[my h,mq h.tl h.tN]
 unfold I16 rZ qj
 by_cases hf:aF c.1 id<0
 ·rw[decide_eq_true hf,decide_eq_false (show ¬ 0≤aF c.1 id by omega)]
  rfl
 ·obtain⟨k,hk,he,_⟩:=b7 (p:=fun x:aB=>x.1==id) (l:=c.1) hf
  have he':aF c.1 id=(k:Int):=he
  rw[he',decide_eq_false (show ¬(k:Int)<0 by omega),decide_eq_true (show 0≤(k:Int) by omega),Int.toNat_natCast,an hk]
  simp only[cond_false,cond_true,Bool.true_and]
  by_cases afS:(c.1.getD k ax).2.2.2.2.2.length=0
  rotate_left
  ·rw[decide_eq_true (show(List.length (c.1.getD k ax).2.2.2.2.2:Int)>0 by omega),decide_eq_false afS,Bool.and_false]
   rfl
  ·rw[decide_eq_false (show ¬(List.length (c.1.getD k ax).2.2.2.2.2:Int)>0 by omega),decide_eq_true afS]
   by_cases hr:c.2.2.1.length=0
   rotate_left
   ·rw[decide_eq_true (show(List.length c.2.2.1:Int)>0 by omega),decide_eq_false hr]
    rfl
   ·rw[decide_eq_false (show ¬(List.length c.2.2.1:Int)>0 by omega),decide_eq_true hr,wrap64 (n:=(k:Int)+1) (by omega) (by omega)]
    simp only[cond_false,Bool.and_true,cond_true]
    unfold avf
    have d1:(decide ((0:Int)≤(k:Int))&&(decide ((k:Int)≤(k:Int)+1)&&decide ((k:Int)+1≤(List.length c.1:Int))))=true:=by simp;omega
    have e3:Int.toNat ((k:Int)+1)=k+1:=by omega
    rw[d1,e3,Int.toNat_natCast,cond_true]
    exact s9 (out:=XC c k) h (Oi h k) rfl hN hl
end Go.Pv.R
namespace Go.Pv.R
set_option linter.unusedVariables false
set_option linter.unusedSimpArgs false
end Go.Pv.R
namespace Go.Pv.R
set_option linter.unusedVariables false
set_option linter.unusedSimpArgs false
theorem afT {α:Type} {l:List α} {z:α} {g:α→Int} (h:∀ (i:Nat) (hi:i<l.length),0<i→g (l.getD (i - 1) z)<g l[i]):∀ (j i:Nat) (hi:i<l.length),j<i→g (l.getD j z)<g l[i]:=by
 intro j i
 induction i with
 |zero=>intro _ hj;omega
 |succ i ih=>
  intro hi hj
  have h1:=h (i+1) hi (by omega)
  rw[Nat.add_sub_cancel] at h1
  by_cases e:j=i
  ·subst e;exact h1
  ·have h2:=ih (by omega) (by omega)
   rw[ai _ _ (by omega)] at h1
   omega
theorem afU {α:Type} {xs:List α} {x z:α} {g:α→Int} {k:Nat} (hk:k≤xs.length) (hm:∀ (j i:Nat) (hi:i<(xs.take k++[x]++xs.drop k).length),j<i→g ((xs.take k++[x]++xs.drop k).getD j z)<g (xs.take k++[x]++xs.drop k)[i]):
  ∀ (i:Nat) (hi:i<xs.length),g xs[i]≠g x:=by
 intro i hi he
 have hl:(xs.take k++[x]++xs.drop k).length=xs.length+1:=by simp only[List.length_append,List.length_take,List.length_drop,List.length_cons,List.length_nil];omega
 have cR:(xs.take k).length=k:=by rw[List.length_take];omega
 have hkx:∀ (h:k<(xs.take k++[x]++xs.drop k).length),(xs.take k++[x]++xs.drop k)[k]=x:=fun h=>by
  rw[List.getElem_append_left (by rw[List.length_append,cR];simp),List.getElem_append_right (by omega)]
  simp[cR]
 by_cases hik:i<k
 ·have h1:=hm i k (by omega) hik
  rw[ai _ _ (by omega),hkx,List.getElem_append_left (by rw[List.length_append,cR];simp;omega),List.getElem_append_left (by omega),List.getElem_take] at h1
  omega
 ·have h1:=hm k (i+1) (by omega) (by omega)
  rw[ai _ _ (by omega),hkx,List.getElem_append_right (by rw[List.length_append,cR];simp;omega),List.getElem_drop] at h1
  have e2:k+(i+1 - (xs.take k++[x]).length)=i:=by rw[List.length_append,cR];simp;omega
  simp only[e2] at h1
  omega
theorem r9 {α:Type} {p:α→Bool} {k:Int→Option aa}:∀ (r:List α) (i m:Nat),i+r.length=m→kC (fun(i:Nat) (x:α) (next:Option aa)=>bif p x then next else k (i:Int)) (k (m:Int)) r i=k ((i+(r.takeWhile p).length:Nat):Int)
 |[],i,m,h=>by
  simp only[List.length_nil,Nat.add_zero] at h
  subst h
  rfl
 |x::r,i,m,h=>by
  simp only[List.length_cons] at h
  simp only[kC,List.takeWhile_cons]
  cases hp:p x with
  |false=>rfl
  |true=>
   simp only[cond_true,if_true,List.length_cons]
   rw[r9 r (i+1) m (by omega)]
   congr 2
   omega
theorem tX {α:Type} (p:α→Bool) (l:List α):(l.takeWhile p).length≤l.length:=(List.takeWhile_sublist p).length_le
theorem aAM {α:Type} {xs:List α} {x:α} {k s:Nat} (hk:k≤xs.length) (hl:xs.length≤1048700) (hs:s≤8):(decide ((0:Int)≤(k:Int))&&(decide ((k:Int)≤(List.length xs:Int))&&(Nat.blt 0 (List.length [x])&&Nat.ble ((List.length xs+List.length [x])*s) 4398046511104)))=true:=by
 have h1:(List.length xs+List.length [x])*s≤1048701*8:=Nat.mul_le_mul (by simp;omega) hs
 rw[decide_eq_true (by omega),decide_eq_true (by omega)]
 simp only[Bool.true_and,Bool.and_eq_true]
 exact⟨rfl,by rw[Nat.ble_eq];omega⟩
def ami (id cL:Int):aB:=(id,(cL,(0,(0,(0,[])))))
def qk (l:List aB) (id:Int):Nat:=(l.takeWhile fun x=>decide (x.1<id)).length
def nk (c:aL) (id cL:Int):aL:=AT c (c.1.take (qk c.1 id)++[ami id cL]++c.1.drop (qk c.1 id))
theorem DN (l:List aB) (id:Int):qk l id≤l.length:=tX _ _
theorem afV {α:Type} {xs:List α} {x y:α} {k:Nat} (h:y∈xs.take k++[x]++xs.drop k):y∈xs∨y=x:=by
 rcases List.mem_append.1 h with h |h
 ·rcases List.mem_append.1 h with h |h
  ·exact .inl (List.mem_of_mem_take h)
  ·exact .inr (List.mem_singleton.1 h)
 ·exact .inl (List.mem_of_mem_drop h)
theorem afW {α:Type} {xs:List α} {x:α} {k:Nat} (hk:k≤xs.length):(xs.take k++[x]++xs.drop k).length=xs.length+1:=by
 simp only[List.length_append,List.length_take,List.length_drop,List.length_cons,List.length_nil];omega
theorem Oj {c:aL} {N:Nat} {id cL:Int} (h:br c N) (hb:c.1.length≤1048576) (hN:c.1.length+1<N):br (nk c id cL) N:=by
 have hl:=afW (x:=ami id cL) (DN c.1 id)
 have h8:=h.n8
 refine xM h (by omega) (by omega) fun x hx=>?_
 rcases afV hx with hx |rfl
 ·exact⟨h.tmb x hx,(h.tm x hx).2⟩
 ·exact⟨by show(0:Nat)≤_;omega,by show(0:Nat)<_;omega⟩
theorem afX {c:aL} {id cL:Int} (h:aG (nk c id cL).1=true):aF c.1 id<0:=by
 unfold aG at h
 simp only[Bool.and_eq_true] at h
 have hm:=vm h.2.1
 have nH:=afU (xs:=c.1) (x:=ami id cL) (z:=ax) (g:=fun x:aB=>x.1) (DN c.1 id) hm
 by_cases hf:aF c.1 id<0
 ·exact hf
 ·obtain⟨k,hk,_,h1,_⟩:=b7 (p:=fun x:aB=>x.1==id) (l:=c.1) hf
  exact absurd (beq_iff_eq.1 h1) (nH k hk)
theorem amj {c:aL} {id cL:Int} (hf: ¬aF c.1 id<0):fc c (nk c id cL) 1 id=false:=by
 cases hd:fc c (nk c id cL) 1 id with
 |false=>rfl
 |true=>
  unfold fc cj at hd
  simp only[Bool.and_eq_true] at hd
  exact absurd (afX hd.2.2.1) hf
theorem Tn {N:Nat} {c z:aL} {id cL:Int} {k:Int→Option aa} (h:br c N):ng id cL c z c N k (0:Int)=k ((qk c.1 id:Nat):Int):=by
 rw[abG h.tl h.tN,r9 c.1 0 c.1.length (by omega),Nat.zero_add]
 rfl
theorem amk {N:Nat} {c:aL} {id cL:Int} {kf:aL→Bool→Option aa} (h:br c N) (hb:c.1.length≤1048576) (hN1:c.1.length+1<N) (hN:200<N) (hl:c.2.2.2.2.2.1.length+1<N):
  aln N c id cL kf=bif decide (c.2.2.1.length=0) then kf (gC c (nk c id cL) 1 id) (fc c (nk c id cL) 1 id) else kf c false:=by
 have hm:=ar
 have hk:=DN c.1 id
 unfold aln
 rw[qh h,Tn h]
 show(bif (decide ((0:Int)≤(0:Int))&&decide ((0:Int)≤((qk c.1 id:Nat):Int))&&decide (((qk c.1 id:Nat):Int)≤(List.length c.1:Int))) then _ else _)=_
 have d1:(decide ((0:Int)≤(0:Int))&&decide ((0:Int)≤((qk c.1 id:Nat):Int))&&decide (((qk c.1 id:Nat):Int)≤(List.length c.1:Int)))=true:=by simp;omega
 have d2:(decide ((0:Int)≤((qk c.1 id:Nat):Int))&&decide (((qk c.1 id:Nat):Int)≤(List.length c.1:Int))&&decide ((List.length c.1:Int)≤(List.length c.1:Int)))=true:=by simp;omega
 have l1:(c.1.take (qk c.1 id)).length≤c.1.length:=by rw[List.length_take];omega
 have l2:(c.1.drop (qk c.1 id)).length≤c.1.length:=by rw[List.length_drop];omega
 rw[d1,cond_true,Int.toNat_natCast,(ot c.1 (qk c.1 id)).1,qg (by omega) (fun x hx=>h.tmb x (List.mem_of_mem_take hx)) (by omega),decide_eq_true (by simp only[List.length_cons,List.length_nil];omega),cond_true]
 show(bif (decide ((0:Int)≤((qk c.1 id:Nat):Int))&&decide (((qk c.1 id:Nat):Int)≤(List.length c.1:Int))&&decide ((List.length c.1:Int)≤(List.length c.1:Int))) then _ else _)=_
 rw[d2,cond_true,Int.toNat_natCast]
 show FC N (List.drop (qk c.1 id) (List.take (List.length c.1) c.1)) _=_
 rw[(ot c.1 (qk c.1 id)).2,qg (by omega) (fun x hx=>h.tmb x (List.mem_of_mem_drop hx)) (by omega),decide_eq_true (by simp only[List.length_append,List.length_cons,List.length_nil];omega),cond_true]
 unfold S94
 refine(vo (out:=nk c id cL) h (fun _=>Oj h hb hN1) hN hl).trans ?_
 by_cases hr:c.2.2.1.length=0
 ·rw[decide_eq_true hr,decide_eq_false (show ¬(List.length c.2.2.1:Int)>0 by omega)];rfl
 ·rw[decide_eq_false hr,decide_eq_true (show(List.length c.2.2.1:Int)>0 by omega)];rfl
theorem abL {N:Nat} {c z:aL} {id cL:Int} {k:Int→Option aa} (h:br c N):rL id cL c z c N k (0:Int)=k ((qk c.1 id:Nat):Int):=by
 rw[afs h.tl h.tN,r9 c.1 0 c.1.length (by omega),Nat.zero_add]
 rfl
theorem av9 {N:Nat} {c:aL} {id cL:Int} {kf:aL→Bool→Option aa} (h:br c N) (hb:c.1.length≤1048576) (hN1:c.1.length+1<N) (hN:200<N) (hl:c.2.2.2.2.2.1.length+1<N):
  I30 N c id cL kf=bif decide (c.2.2.1.length=0) then kf (gC c (nk c id cL) 1 id) (fc c (nk c id cL) 1 id) else kf c false:=by
 have hm:=ar
 have hk:=DN c.1 id
 unfold I30
 rw[my h,mq h.tl h.tN]
 by_cases hf:aF c.1 id<0
 rotate_left
 ·rw[decide_eq_true (show aF c.1 id≥0 by omega),cond_true]
  have hd:=amj (cL:=cL) hf
  have hc:gC c (nk c id cL) 1 id=c:=by unfold gC;rw[hd];rfl
  rw[hd,hc]
  cases decide (c.2.2.1.length=0)<;>rfl
 ·rw[decide_eq_false (show ¬aF c.1 id≥0 by omega),cond_false]
  unfold I16
  by_cases hr:c.2.2.1.length=0
  rotate_left
  ·rw[decide_eq_false hr,decide_eq_true (show(List.length c.2.2.1:Int)>0 by omega)];rfl
  ·rw[decide_eq_true hr,decide_eq_false (show ¬(List.length c.2.2.1:Int)>0 by omega)]
   simp only[cond_false,cond_true]
   rw[abL h]
   show akJ N c.1 ((qk c.1 id:Nat):Int) [ami id cL] _=_
   unfold akJ
   rw[aAM hk (by omega) (by decide),cond_true,Int.toNat_natCast]
   exact s9 (out:=nk c id cL) h (Oj h hb hN1) rfl hN hl
def F4 (c:aL) (l:List aZ):aL:=(c.1,(l,c.2.2))
theorem Hl {c:aL} {N:Nat} {l:List aZ} (h:br c N) (hl:l.length≤1048700) (hN:l.length<N) (hm:∀ x:aZ,x∈l→x.2.2.length≤1048700∧x.2.2.length<N):br (F4 c l) N:=by
 have h0:=ar
 exact⟨h.tl,h.tm,h.tN,by show l.length≤_;omega,fun x hx=>⟨by have:=(hm x hx).1;omega,(hm x hx).2⟩,hN,h.rl,h.rN,h.sl,h.sN,h.bl,h.bN,h.ml,h.mN,h.n8,h.tb,h.tmb,hl,fun x hx=>(hm x hx).1⟩
def aml (id cL:Int):aZ:=(id,(cL,[]))
def qm (l:List aZ) (id:Int):Nat:=(l.takeWhile fun x=>decide (x.1<id)).length
def jU (c:aL) (id cL:Int):aL:=F4 c (c.2.1.take (qm c.2.1 id)++[aml id cL]++c.2.1.drop (qm c.2.1 id))
theorem DO (l:List aZ) (id:Int):qm l id≤l.length:=tX _ _
theorem Il {c:aL} {N:Nat} {id cL:Int} (h:br c N) (hb:c.2.1.length≤1048576) (hN:c.2.1.length+1<N):br (jU c id cL) N:=by
 have hl:=afW (x:=aml id cL) (DO c.2.1 id)
 have h8:=h.n8
 refine Hl h (by omega) (by omega) fun x hx=>?_
 rcases afV hx with hx |rfl
 ·exact⟨h.jmb x hx,(h.jm x hx).2⟩
 ·exact⟨by show(0:Nat)≤_;omega,by show(0:Nat)<_;omega⟩
theorem abM {c:aL} {id cL:Int} (h:bZ (jU c id cL).2.1=true):cD c.2.1 id<0:=by
 unfold bZ at h
 simp only[Bool.and_eq_true] at h
 have hm:=afT (l:=(jU c id cL).2.1) (z:=cg) (g:=fun x:aZ=>x.1) (fun i hi h0=>by
  have h1:=(fz.1 h.2) i hi
  rw[Nat.zero_add] at h1
  unfold nD at h1
  simp only[Bool.and_eq_true,Bool.or_eq_true,decide_eq_true_eq] at h1
  exact h1.2.2.1.resolve_left (by omega))
 have nH:=afU (xs:=c.2.1) (x:=aml id cL) (z:=cg) (g:=fun x:aZ=>x.1) (DO c.2.1 id) hm
 by_cases hf:cD c.2.1 id<0
 ·exact hf
 ·obtain⟨k,hk,_,h1,_⟩:=b7 (p:=fun x:aZ=>x.1==id) (l:=c.2.1) hf
  exact absurd (beq_iff_eq.1 h1) (nH k hk)
theorem afY {c:aL} {id cL:Int} (hf: ¬cD c.2.1 id<0):fc c (jU c id cL) 2 id=false:=by
 cases hd:fc c (jU c id cL) 2 id with
 |false=>rfl
 |true=>
  unfold fc cj at hd
  simp only[Bool.and_eq_true] at hd
  exact absurd (abM hd.2.2.2.1) hf
theorem To {N:Nat} {c z:aL} {id cL:Int} {k:Int→Option aa} (h:br c N):nh id cL c z c N k (0:Int)=k ((qm c.2.1 id:Nat):Int):=by
 rw[abH h.jl h.jN,r9 c.2.1 0 c.2.1.length (by omega),Nat.zero_add]
 rfl
theorem amm {N:Nat} {c:aL} {id cL:Int} {kf:aL→Bool→Option aa} (h:br c N) (hb:c.2.1.length≤1048576) (hN1:c.2.1.length+1<N) (hN:200<N) (hl:c.2.2.2.2.2.1.length+1<N):
  alo N c id cL kf=kf (gC c (jU c id cL) 2 id) (fc c (jU c id cL) 2 id):=by
 have hm:=ar
 have hk:=DO c.2.1 id
 unfold alo
 rw[qh h,To h]
 show(bif (decide ((0:Int)≤(0:Int))&&decide ((0:Int)≤((qm c.2.1 id:Nat):Int))&&decide (((qm c.2.1 id:Nat):Int)≤(List.length c.2.1:Int))) then _ else _)=_
 have d1:(decide ((0:Int)≤(0:Int))&&decide ((0:Int)≤((qm c.2.1 id:Nat):Int))&&decide (((qm c.2.1 id:Nat):Int)≤(List.length c.2.1:Int)))=true:=by simp;omega
 have d2:(decide ((0:Int)≤((qm c.2.1 id:Nat):Int))&&decide (((qm c.2.1 id:Nat):Int)≤(List.length c.2.1:Int))&&decide ((List.length c.2.1:Int)≤(List.length c.2.1:Int)))=true:=by simp;omega
 have l1:(c.2.1.take (qm c.2.1 id)).length≤c.2.1.length:=by rw[List.length_take];omega
 have l2:(c.2.1.drop (qm c.2.1 id)).length≤c.2.1.length:=by rw[List.length_drop];omega
 rw[d1,cond_true,Int.toNat_natCast,(ot c.2.1 (qm c.2.1 id)).1,JO (by omega) (fun x hx=>h.jmb x (List.mem_of_mem_take hx)) (by omega),decide_eq_true (by simp only[List.length_cons,List.length_nil];omega),cond_true]
 show(bif (decide ((0:Int)≤((qm c.2.1 id:Nat):Int))&&decide (((qm c.2.1 id:Nat):Int)≤(List.length c.2.1:Int))&&decide ((List.length c.2.1:Int)≤(List.length c.2.1:Int))) then _ else _)=_
 rw[d2,cond_true,Int.toNat_natCast]
 show SX N (List.drop (qm c.2.1 id) (List.take (List.length c.2.1) c.2.1)) _=_
 rw[(ot c.2.1 (qm c.2.1 id)).2,JO (by omega) (fun x hx=>h.jmb x (List.mem_of_mem_drop hx)) (by omega),decide_eq_true (by simp only[List.length_append,List.length_cons,List.length_nil];omega),cond_true]
 exact vo (out:=jU c id cL) h (fun _=>Il h hb hN1) hN hl
theorem abN {N:Nat} {c z:aL} {id cL:Int} {k:Int→Option aa} (h:br c N):rM id cL c z c N k (0:Int)=k ((qm c.2.1 id:Nat):Int):=by
 rw[aft h.jl h.jN,r9 c.2.1 0 c.2.1.length (by omega),Nat.zero_add]
 rfl
theorem av' {N:Nat} {c:aL} {id cL:Int} {kf:aL→Bool→Option aa} (h:br c N) (hb:c.2.1.length≤1048576) (hN1:c.2.1.length+1<N) (hN:200<N) (hl:c.2.2.2.2.2.1.length+1<N):
  I32 N c id cL kf=kf (gC c (jU c id cL) 2 id) (fc c (jU c id cL) 2 id):=by
 have hm:=ar
 have hk:=DO c.2.1 id
 unfold I32
 rw[my h,Xs h.jl h.jN]
 by_cases hf:cD c.2.1 id<0
 rotate_left
 ·rw[decide_eq_true (show cD c.2.1 id≥0 by omega),cond_true]
  have hd:=afY (cL:=cL) hf
  have hc:gC c (jU c id cL) 2 id=c:=by unfold gC;rw[hd];rfl
  rw[hd,hc]
 ·rw[decide_eq_false (show ¬cD c.2.1 id≥0 by omega),cond_false,abN h]
  show akT N c.2.1 ((qm c.2.1 id:Nat):Int) [aml id cL] _=_
  unfold akT
  rw[aAM hk (by omega) (by decide),cond_true,Int.toNat_natCast]
  exact s9 (out:=jU c id cL) h (Il h hb hN1) rfl hN hl
end Go.Pv.R
namespace Go.Pv.R
set_option linter.unusedVariables false
set_option linter.unusedSimpArgs false
end Go.Pv.R
namespace Go.Pv.R
set_option linter.unusedVariables false
set_option linter.unusedSimpArgs false
end Go.Pv.R
namespace Go.Pv.R
set_option linter.unusedVariables false
set_option linter.unusedSimpArgs false
end Go.Pv.R
namespace Go.Pv.R
set_option linter.unusedVariables false
set_option linter.unusedSimpArgs false
end Go.Pv.R
namespace Go.Pv.R
set_option linter.unusedVariables false
set_option linter.unusedSimpArgs false
theorem JQ {N:Nat} {a b:Int} {kf:Int→Option aa}:aaG N a b kf=kf (bif decide (a<b) then -1 else bif decide (a>b) then 1 else 0):=by
 unfold aaG akX
 simp only[bne_self_eq_false,cond_false]
 cases decide (a<b)<;>cases decide (a>b)<;>rfl
end Go.Pv.R
namespace Go.Pv.R
set_option linter.unusedVariables false
set_option linter.unusedSimpArgs false
end Go.Pv.R
namespace Go.Pv.R
set_option linter.unusedVariables false
set_option linter.unusedSimpArgs false
end Go.Pv.R
namespace Go.Pv.R
set_option linter.unusedVariables false
set_option linter.unusedSimpArgs false
end Go.Pv.R
namespace Go.Pv.R
set_option linter.unusedVariables false
set_option linter.unusedSimpArgs false
def cX (a b:aB):Bool:=bif a.2.2.1 != b.2.2.1 then decide (a.2.2.1>b.2.2.1) else(bif decide (a.2.2.2.1>b.2.2.2.1) then true else(bif a.2.2.2.1==b.2.2.2.1 then decide (a.1<b.1) else false))
theorem XD {N:Nat} {a b:aB} {kf:Bool→Option aa}:aeU N a b kf=kf (cX a b):=by
 unfold aeU cX
 cases (a.2.2.1 != b.2.2.1) with
 |true=>rfl
 |false=>
  simp only[cond_false]
  cases decide (a.2.2.2.1>b.2.2.2.1) with
  |true=>rfl
  |false=>
   simp only[cond_false]
   cases (a.2.2.2.1==b.2.2.2.1)<;>rfl
theorem mA {a b:aB}:cX a b=true↔a.2.2.1>b.2.2.1∨(a.2.2.1=b.2.2.1∧(a.2.2.2.1>b.2.2.2.1∨(a.2.2.2.1=b.2.2.2.1∧a.1<b.1))):=by
 unfold cX
 by_cases h1:a.2.2.1=b.2.2.1
 ·have e1:(a.2.2.1 != b.2.2.1)=false:=by simp[h1]
  rw[e1,cond_false]
  by_cases h2:a.2.2.2.1>b.2.2.2.1
  ·rw[decide_eq_true h2];simp[h1,h2]
  ·rw[decide_eq_false h2,cond_false]
   by_cases h3:a.2.2.2.1=b.2.2.2.1
   ·have e3:(a.2.2.2.1==b.2.2.2.1)=true:=by simp[h3]
    rw[e3,cond_true];simp[h1,h3]
   ·have e3:(a.2.2.2.1==b.2.2.2.1)=false:=by simp[h3]
    rw[e3,cond_false];simp[h1,h2,h3]
 ·have e1:(a.2.2.1 != b.2.2.1)=true:=by simp[h1]
  rw[e1,cond_true]
  simp[h1]
def Tp (a b:Int):Int:=bif decide (a<b) then -1 else bif decide (a>b) then 1 else 0
theorem amn (a b:Int):Tp a b=if a<b then -1 else if a>b then 1 else 0:=by
 unfold Tp
 by_cases h1:a<b
 ·rw[decide_eq_true h1,if_pos h1];rfl
 ·rw[decide_eq_false h1,if_neg h1]
  by_cases h2:a>b
  ·rw[decide_eq_true h2,if_pos h2];rfl
  ·rw[decide_eq_false h2,if_neg h2];rfl
theorem amo {N:Nat} {a b c:Int} {kf:Int→Option aa} (hN:3<N):akY N [a,b,c] kf=kf (if a≠0 then a else if b≠0 then b else c):=by
 unfold akY
 rw[aa9 (by rw[ar];simp) (by simpa using hN)]
 simp only[kC]
 by_cases h1:a=0
 ·subst h1
  have e1:(((0:Int) != (0:Int)))=false:=by simp
  rw[e1,cond_false]
  by_cases h2:b=0
  ·subst h2
   rw[e1,cond_false]
   by_cases h3:c=0
   ·subst h3;rw[e1,cond_false];simp
   ·have e3:(c != 0)=true:=by simp[h3]
    rw[e3,cond_true];simp
  ·have e2:(b != 0)=true:=by simp[h2]
   rw[e2,cond_true];simp[h2]
 ·have e2:(a != 0)=true:=by simp[h1]
  rw[e2,cond_true];simp[h1]
def awa (a b:aB):Int:=if Tp b.2.2.1 a.2.2.1≠0 then Tp b.2.2.1 a.2.2.1 else if Tp b.2.2.2.1 a.2.2.2.1≠0 then Tp b.2.2.2.1 a.2.2.2.1 else Tp a.1 b.1
theorem amp {N:Nat} {a b:aB} {kf:Int→Option aa} (hN:3<N):akZ N a b kf=kf (awa a b):=by
 unfold akZ
 rw[JQ,JQ,JQ,amo hN]
 rfl
theorem Ol (a b:aB):decide (awa a b<0)=cX a b:=by
 rw[Bool.eq_iff_iff,mA,decide_eq_true_eq]
 unfold awa
 simp only[amn]
 rcases Int.lt_trichotomy a.2.2.1 b.2.2.1 with h1 |h1 |h1
 ·have: ¬b.2.2.1<a.2.2.1:=by omega
  simp only[this,if_false,if_pos (show b.2.2.1>a.2.2.1 from h1)]
  simp;omega
 ·simp only[h1,Int.lt_irrefl,if_false,gt_iff_lt,ne_eq,not_true_eq_false]
  rcases Int.lt_trichotomy a.2.2.2.1 b.2.2.2.1 with h2 |h2 |h2
  ·have: ¬b.2.2.2.1<a.2.2.2.1:=by omega
   simp only[this,if_false,if_pos h2]
   simp;omega
  ·simp only[h2,Int.lt_irrefl,if_false,ne_eq,not_true_eq_false]
   by_cases h3:a.1<b.1
   ·simp[h3]
   ·simp only[h3,if_false]
    by_cases h4:b.1<a.1
    ·simp[h4]
    ·simp[h4]
  ·simp only[if_pos h2]
   simp[h2]
 ·simp only[if_pos (show b.2.2.1<a.2.2.1 from h1)]
  simp[h1]
def mB (x:aB) (s:List aB):Nat→Nat
 |0=>0
 |k+1=>bif cX x (s.getD k ax) then mB x s k else k+1
theorem DP (x:aB) (s:List aB):∀ k,mB x s k≤k
 |0=>Nat.le_refl _
 |k+1=>by
  unfold mB
  cases cX x (s.getD k ax) with
  |true=>exact Nat.le_succ_of_le (DP x s k)
  |false=>exact Nat.le_refl _
def se (s:List aB) (x:aB):List aB:=s.take (mB x s s.length)++[x]++s.drop (mB x s s.length)
theorem xN (s:List aB) (x:aB):(se s x).length=s.length+1:=by
 have:=DP x s s.length
 simp[se];omega
def mC (l:List aB):List aB:=l.foldl se []
theorem Om:∀ (l s:List aB),(l.foldl se s).length=s.length+l.length
 |[],s=>by simp
 |x::l,s=>by simp only[List.foldl_cons,Om l,xN,List.length_cons];omega
theorem ta (l:List aB):(mC l).length=l.length:=by simp[mC,Om]
def mD (l:List aB):List Int:=bif aG l then(mC l).map (fun x:aB=>x.1) else []
theorem F5 {N:Nat} {l s:List aB} {i:Nat} (hi:i<l.length) (hl:l.length≤1048700) (hs:s.length≤1048700) {kk:Int→Option aa}:∀ (k n:Nat),k≤s.length→k<n→pN N l s (i:Int) n kk (k:Int)=kk ((mB l[i] s k:Nat):Int)
 |0,n+1,_,_=>by
  simp only[pN]
  rfl
 |k+1,n+1,hk,hn=>by
  have hm:=ar
  have ew:IntKind.wrap .i64 (((k+1:Nat):Int) - 1)=((k:Nat):Int):=by
   have:=oo (i:=k+1) (m:=s.length+1) (by omega) (by omega) (by omega)
   simpa using this
  simp only[pN]
  rw[decide_eq_true (show((k+1:Nat):Int)>0 by omega),cond_true,an hi,cond_true,ew,an (show k<s.length by omega),cond_true,XD,Int.toNat_natCast,Int.toNat_natCast,ai l i hi]
  unfold mB
  cases cX l[i] (s.getD k ax) with
  |true=>simp only[cond_true];exact F5 hi hl hs k n (by omega) (by omega)
  |false=>rfl
theorem sh {α σ:Type} {body:Nat→α→σ→(σ→Option aa)→Option aa} {bF:σ→Option aa} {g:σ→α→σ} {Inv:Nat→σ→Prop} {l:List α}
  (hb:∀ (i:Nat) (s:σ) (next:σ→Option aa) (h:i<l.length),Inv i s→body i l[i] s next=next (g s l[i])∧Inv (i+1) (g s l[i])):∀ (r:List α) (i:Nat) (s:σ),l.drop i=r→Inv i s→bQ body bF r i s=bF (r.foldl g s)
 |[],i,s,_,_=>rfl
 |x::r,i,s,hd,hs=>by
  have cR:i<l.length:=by have:=congrArg List.length hd;simp at this;omega
  rw[List.drop_eq_getElem_cons cR] at hd
  injection hd with h1 h2
  subst h1
  obtain⟨e1,e2⟩:=hb i s (fun s'=>bQ body bF r (i+1) s') cR hs
  simp only[bQ,List.foldl_cons]
  rw[e1]
  exact sh hb r (i+1) _ h2 e2
theorem On {l:List aB} {kf:List Int→Option aa} (hl:l.length≤1048700):bQ (fun(i:Nat) (x:QT) (s:(List Int)) (next:(List Int)→Option aa)=>
    bif (decide ((List.length s+List.length [x.1])*1≤4398046511104)) then
     next (s++[x.1])
    else none) (fun(s:(List Int))=>kf s) l 0 []=kf (l.map fun x:aB=>x.1):=by
 rw[sh (l:=l) (g:=fun s (x:aB)=>s++[x.1]) (Inv:=fun i s=>s.length=i) (fun i s next h hs=>⟨by rw[decide_eq_true (by simp only[List.length_cons,List.length_nil];omega),cond_true],by simp[hs]⟩) l 0 [] rfl rfl]
 congr 1
 have:∀ (r:List aB) (s:List Int),r.foldl (fun s (x:aB)=>s++[x.1]) s=s++r.map fun x:aB=>x.1:=by
  intro r
  induction r with
  |nil=>intro s;simp
  |cons x r ih=>intro s;simp[ih]
 simpa using this l []
theorem amq {N:Nat} {l:List aB} {kf:List Int→Option aa} (hl:l.length≤maxLen) (hm:∀ x∈l,x.met.length≤maxLen∧x.met.length<N) (hN:l.length+1<N):ak7 N l kf=kf (mD l):=by
 have hx:=ar
 unfold ak7 mD
 rw[abk hl (by omega)]
 have ha:∀ kf,tF N l kf=kf (aG l):=fun kf=>kg hl hm (by omega)
 cases du:aG l with
 |false=>
  have key:∀ (l2:List aB) (body:Nat→aB→List aB→(List aB→Option aa)→Option aa) (bF:List aB→Option aa),(∀ i x s next,body i x s next=bF s)→bQ body bF l2 0 []=bF []:=by
   intro l2 body bF h
   cases l2 with
   |nil=>rfl
   |cons x r=>simp only[bQ];exact h _ _ _ _
  rw[key _ _ _ (fun i x s next=>by rw[ha,du];rfl)]
  rw[FQ (by simp) (by simp;omega)]
  rfl
 |true=>
  have h10:l.length≤10:=by
   unfold aG at du
   simp only[Bool.and_eq_true,decide_eq_true_eq] at du
   exact du.1
  rw[sh (l:=l) (g:=se) (Inv:=fun i s=>s.length=i∧i≤l.length) (fun i s next h hs=>⟨by
   obtain⟨h1,h2⟩:=hs
   have hp:=DP l[i] s s.length
   rw[ha,du]
   simp only[cond_true]
   rw[F5 h (by omega) (by omega) s.length N (Nat.le_refl _) (by omega)]
   have d1:(decide ((0:Int)≤(0:Int))&&decide ((0:Int)≤((mB l[i] s s.length:Nat):Int))&&decide (((mB l[i] s s.length:Nat):Int)≤(List.length s:Int)))=true:=by simp;omega
   have d2:(decide ((0:Int)≤((mB l[i] s s.length:Nat):Int))&&decide (((mB l[i] s s.length:Nat):Int)≤(List.length s:Int))&&decide ((List.length s:Int)≤(List.length s:Int)))=true:=by simp;omega
   rw[d1,cond_true,d2,cond_true,Int.toNat_natCast,Int.toNat_natCast,List.drop_zero,List.take_length,List.nil_append]
   have l1:(s.take (mB l[i] s s.length)).length≤s.length:=by rw[List.length_take];omega
   have l2:(s.drop (mB l[i] s s.length)).length≤s.length:=by rw[List.length_drop];omega
   rw[decide_eq_true (by simp only[List.length_nil];omega),cond_true,decide_eq_true (by simp only[List.length_cons,List.length_nil];omega),cond_true,decide_eq_true (by simp only[List.length_append,List.length_cons,List.length_nil];omega),cond_true]
   rfl,by rw[xN];omega,h⟩) l 0 [] rfl ⟨rfl,by omega⟩]
  have hlen:=ta l
  show kG (mC l) N kf [] 0=_
  rw[FQ (by omega) (by omega)]
  exact On (by omega)
theorem amr {α:Type} (P Q:List α) (y x:α) (z:α):List.set (List.set (P++(y::x::Q)) (P.length+1) y) P.length x=P++(x::y::Q):=by
 rw[List.set_append_right _ _ (by omega),List.set_append_right _ _ (by omega)]
 simp
def qN (s:List aB) (x:aB) (rest:List aB) (k:Nat):List aB:=s.take k++(x::(s.drop k++rest))
theorem afZ {s rest:List aB} {x:aB} {k:Nat} (hk:k≤s.length):(qN s x rest k).length=s.length+1+rest.length:=by simp[qN];omega
theorem F6 {N:Nat} {s rest:List aB} {x:aB} {b i:Int} {kk:List aB→Option aa} (hN:3<N) (hl:s.length+rest.length≤1048700):∀ (k n:Nat),k≤s.length→k<n→
  sJ N (0:Int) b i n kk (qN s x rest k) (k:Int)=kk (qN s x rest (mB x s k))
 |0,n+1,_,_=>by
  simp only[sJ]
  rfl
 |k+1,n+1,hk,hn=>by
  have hm:=ar
  have ew:IntKind.wrap .i64 (((k+1:Nat):Int) - 1)=((k:Nat):Int):=by
   have:=oo (i:=k+1) (m:=s.length+1) (by omega) (by omega) (by omega)
   simpa using this
  have hlen:=afZ (x:=x) (rest:=rest) hk
  have e1:s.take (k+1)=s.take k++[s[k]]:=by rw[List.take_succ_eq_append_getElem (by omega)]
  have e2:s.drop k=s[k]::s.drop (k+1):=by rw[List.drop_eq_getElem_cons (by omega)]
  have hP:(s.take k).length=k:=by rw[List.length_take];omega
  have em:qN s x rest (k+1)=s.take k++(s[k]::x::(s.drop (k+1)++rest)):=by unfold qN;rw[e1,List.append_assoc];rfl
  have en:qN s x rest k=s.take k++(x::s[k]::(s.drop (k+1)++rest)):=by unfold qN;rw[e2];rfl
  have g1:(qN s x rest (k+1)).getD (k+1) ax=x:=by rw[em,List.getD_eq_getElem?_getD,List.getElem?_append_right (by omega),hP];simp
  have g0:(qN s x rest (k+1)).getD k ax=s[k]:=by rw[em,List.getD_eq_getElem?_getD,List.getElem?_append_right (by omega),hP];simp
  simp only[sJ]
  rw[decide_eq_true (show((k+1:Nat):Int)>0 by omega),cond_true,an (show k+1<(qN s x rest (k+1)).length by omega),cond_true,ew,an (show k<(qN s x rest (k+1)).length by omega),cond_true,Int.toNat_natCast,Int.toNat_natCast,g1,g0,amp hN,Ol]
  have eb:cX x (s.getD k ax)=cX x s[k]:=by rw[ai s k (by omega)]
  unfold mB
  rw[eb]
  cases cX x s[k] with
  |true=>
   simp only[cond_true,share]
   rw[an (show k<_ by rw[List.length_set];omega),cond_true]
   have es:List.set (List.set (qN s x rest (k+1)) (k+1) s[k]) k x=qN s x rest k:=by
    rw[em,en]
    have:=amr (s.take k) (s.drop (k+1)++rest) s[k] x x
    rw[hP] at this
    exact this
   rw[es]
   exact F6 hN hl k n (by omega) (by omega)
  |false=>rfl
theorem F7 {N:Nat} {l:List aB} {kk:List aB→Option aa} (hN:3<N) (hl:l.length≤1048700) (hlN:l.length<N):∀ (r s:List aB) (n:Nat),s.length+r.length=l.length→r.length<n→
  pD N (0:Int) (l.length:Int) n kk (s++r) (s.length:Int)=kk (r.foldl se s)
 |[],s,n+1,hs,_=>by
  simp only[pD]
  rw[decide_eq_false (show ¬(s.length:Int)<(l.length:Int) by simp at hs;omega)]
  simp
 |x::r,s,n+1,hs,hn=>by
  have hm:=ar
  simp only[List.length_cons] at hs hn
  simp only[pD]
  rw[decide_eq_true (show(s.length:Int)<(l.length:Int) by omega),cond_true]
  have e0:s++x::r=qN s x r s.length:=by simp[qN]
  rw[e0,F6 hN (by omega) s.length N (Nat.le_refl _) (by omega)]
  have e1:qN s x r (mB x s s.length)=se s x++r:=by simp[qN,se]
  have e2:IntKind.wrap .i64 ((s.length:Int)+1)=((se s x).length:Int):=by
   rw[xN]
   exact fH (i:=s.length) (m:=l.length) (by omega) (by omega)
  rw[e1,e2,F7 hN hl hlN r (se s x) n (by rw[xN];omega) (by omega)]
  rfl
theorem Oo {N:Nat} {n:Nat} {kf:Int→Option aa} (h:n<256):∃ r,akW N (n:Int) kf=kf r:=by
 unfold akW au9
 rw[decide_eq_false (by omega),cond_false]
 unfold Jn
 rw[decide_eq_false (by omega),cond_false]
 unfold Jm
 rw[decide_eq_false (by omega),cond_false]
 unfold Jl
 have e:IntKind.wrap .u8 (n:Int)=(n:Int):=by simp[IntKind.wrap,IntKind.bits,IntKind.signed];omega
 rw[e,an (m:=ByteArray.size _) (by
  have:ByteArray.size aR=256:=by decide+kernel
  rw[this];exact h),cond_true]
 exact⟨_,rfl⟩
end Go.Pv.R
namespace Go.Pv.R
set_option linter.unusedVariables false
set_option linter.unusedSimpArgs false
theorem vp {N:Nat} {l:List aB} {kf:List aB→Option aa} (hl:l.length≤12) (hN:20<N):ak1 N l kf=kf (mC l):=by
 have hm:=ar
 unfold ak1
 have ew:IntKind.wrap .u64 (List.length l:Int)=(l.length:Int):=by simp[IntKind.wrap,IntKind.bits,IntKind.signed];omega
 rw[ew]
 obtain⟨r,hr⟩:=Oo (N:=N) (n:=l.length) (kf:=fun(cJ:Int)=>ak0 N l (0:Int) (List.length l:Int) cJ kf) (by omega)
 rw[hr]
 unfold ak0
 obtain⟨n,rfl⟩:∃ n,N=n+1:=⟨N - 1,by omega⟩
 simp only[Jp]
 rw[wrap64 (n:=(List.length l:Int) - 0) (by omega) (by omega),decide_eq_true (by omega),cond_true]
 unfold ava
 cases l with
 |nil=>
  have e:IntKind.wrap .i64 ((0:Int)+1)=1:=by decide
  rw[e]
  simp only[pD]
  rfl
 |cons x r=>
  have e:IntKind.wrap .i64 ((0:Int)+1)=(([x]:List aB).length:Int):=by
   show IntKind.wrap .i64 ((0:Int)+1)=((1:Nat):Int)
   decide
  rw[e]
  have:=F7 (N:=n+1) (l:=x::r) (kk:=kf) (by omega) (by omega) (by omega) r [x] (n+1) (by simp;omega) (by simp at hl;omega)
  simp only[List.singleton_append] at this
  rw[this]
  rfl
theorem ams {N:Nat} {l:List aB} {kf:List aB→Option aa} (hl:l.length≤1048576):akV N l kf=kf l:=oq (decide_eq_true (by simp only[List.length_nil];omega))
theorem XE {N:Nat} {l:List aB} {kf:List Int→Option aa} (hl:l.length≤maxLen) (hm:∀ x∈l,x.met.length≤maxLen∧x.met.length<N) (hN:l.length<N) (CN:20<N):aeD N l kf=kf (mD l):=by
 have hx:=ar
 unfold aeD mD
 rw[lB hl hm hN]
 cases du:aG l with
 |false=>rfl
 |true=>
  have h10:l.length≤10:=by
   unfold aG at du
   simp only[Bool.and_eq_true,decide_eq_true_eq] at du
   exact du.1
  have hlen:=ta l
  simp only[Bool.not_true,cond_false,cond_true]
  rw[ams (by omega),vp (by omega) CN,aa' (by omega) (by omega)]
  exact On (by omega)
def RD (a b:aB):Prop:=cX b a=false
theorem XF {a b:aB}:RD a b↔ ¬(b.2.2.1>a.2.2.1∨(b.2.2.1=a.2.2.1∧(b.2.2.2.1>a.2.2.2.1∨(b.2.2.2.1=a.2.2.2.1∧b.1<a.1)))):=by
 unfold RD
 rw[←mA,Bool.not_eq_true]
theorem abO {a b c:aB} (h1:RD a b) (h2:RD b c):RD a c:=by
 rw[XF] at*
 omega
theorem Tq {a b:aB} (h:cX a b=true):RD a b:=by
 rw[XF]
 rw[mA] at h
 omega
theorem Tr {a b:aB} (h:a.1≠b.1) (hb:cX a b=false):cX b a=true:=by
 rw[mA]
 rw[←Bool.not_eq_true,mA] at hb
 omega
theorem XG (x:aB) (s:List aB):∀ k i,mB x s k≤i→i<k→cX x (s.getD i ax)=true
 |0,i,_,h=>by omega
 |k+1,i,h1,h2=>by
  unfold mB at h1
  cases hb:cX x (s.getD k ax) with
  |true=>
   rw[hb,cond_true] at h1
   rcases Nat.lt_or_eq_of_le (Nat.le_of_lt_succ h2) with h3 |rfl
   ·exact XG x s k i h1 h3
   ·exact hb
  |false=>
   rw[hb,cond_false] at h1
   omega
theorem XH (x:aB) (s:List aB):∀ k,0<mB x s k→RD (s.getD (mB x s k - 1) ax) x
 |0,h=>by simp[mB] at h
 |k+1,h=>by
  unfold mB at h ⊢
  cases hb:cX x (s.getD k ax) with
  |true=>rw[hb,cond_true] at h;exact XH x s k h
  |false=>exact hb
theorem abP (s:List aB) (x:aB):(se s x).Perm (x::s):=by
 unfold se
 refine(List.perm_append_comm.append_right _).trans ?_
 rw[List.append_assoc,List.take_append_drop]
 exact List.Perm.refl _
theorem Im:∀ (l s:List aB),(l.foldl se s).Perm (l++s)
 |[],s=>List.Perm.refl _
 |x::l,s=>by
  refine(Im l (se s x)).trans ?_
  refine((abP s x).append_left l).trans ?_
  exact List.perm_middle
theorem Io {l:List aB} {x:aB}:x∈mC l↔x∈l:=by
 have:=(Im l []).mem_iff (a:=x)
 rw[List.append_nil] at this
 exact this
theorem Oq {s:List aB} {x:aB} (h:s.Pairwise RD):(se s x).Pairwise RD:=by
 have hp:=DP x s s.length
 have hlo:=XH x s s.length
 have Et:=XG x s s.length
 unfold se
 generalize mB x s s.length=p at*
 have h0:=h
 rw[←List.take_append_drop p s,List.pairwise_append] at h
 obtain⟨h1,h2,h3⟩:=h
 rw[List.append_assoc,List.pairwise_append]
 have hb:∀ y∈s.drop p,RD x y:=fun y hy=>by
  obtain⟨j,hj,rfl⟩:=List.mem_iff_getElem.1 hy
  rw[List.length_drop] at hj
  have:=Et (p+j) (by omega) (by omega)
  rw[ai _ _ (by omega)] at this
  rw[List.getElem_drop]
  exact Tq this
 have ha:∀ y∈s.take p,RD y x:=fun y hy=>by
  obtain⟨j,hj,rfl⟩:=List.mem_iff_getElem.1 hy
  rw[List.length_take] at hj
  have:=hlo (by omega)
  rw[ai _ _ (by omega)] at this
  rw[List.getElem_take]
  by_cases hjp:j=p - 1
  ·subst hjp;exact this
  ·exact abO (List.pairwise_iff_getElem.1 h0 j (p - 1) (by omega) (by omega) (by omega)) this
 refine⟨h1,?_,?_⟩
 ·rw[List.singleton_append,List.pairwise_cons]
  exact⟨hb,h2⟩
 ·intro a hA b hB
  rw[List.singleton_append,List.mem_cons] at hB
  rcases hB with rfl |hB
  ·exact ha a hA
  ·exact h3 a hA b hB
theorem JR (l:List aB):(mC l).Pairwise RD:=by
 have:∀ (l s:List aB),s.Pairwise RD→(l.foldl se s).Pairwise RD:=by
  intro l
  induction l with
  |nil=>exact fun s h=>h
  |cons x l ih=>exact fun s h=>ih _ (Oq h)
 exact this l [] List.Pairwise.nil
def df (t:List aB) (id:Int):aB:=t.getD (aF t id).toNat ax
def Ot (t:List aB) (a b:Int):cu:=bif aG t&&(decide (aF t a≥0)&&(decide (aF t b≥0)&&(aF t a != aF t b))) then
  (bif decide ((df t b).2.2.2.2.1<(df t a).2.2.2.2.1) then(b,a) else bif (df t b).2.2.2.2.1==(df t a).2.2.2.2.1 then(bif cX (df t b) (df t a) then(b,a) else(a,b)) else(a,b)) else(0,0)
theorem amt {N:Nat} {t:List aB} {a b:Int} {kf:cu→Option aa} (hl:t.length≤maxLen) (hm:∀ x∈t,x.met.length≤maxLen∧x.met.length<N) (hN:t.length<N):ak9 N t a b kf=kf (Ot t a b):=by
 unfold ak9 Ot
 rw[jf hl hN,jf hl hN,kg hl hm hN]
 cases aG t with
 |false=>rfl
 |true=>
  by_cases ha:aF t a≥0
  rotate_left
  ·rw[decide_eq_true (show aF t a<0 by omega),decide_eq_false ha];rfl
  by_cases hb:aF t b≥0
  rotate_left
  ·rw[decide_eq_false (show ¬aF t a<0 by omega),decide_eq_true ha,decide_eq_true (show aF t b<0 by omega),decide_eq_false hb];rfl
  rw[decide_eq_true ha,decide_eq_true hb,decide_eq_false (show ¬aF t a<0 by omega),decide_eq_false (show ¬aF t b<0 by omega),(eX ha).1,(eX hb).1]
  simp only[cond_true,cond_false,Bool.not_true,Bool.true_and,XD,bne]
  unfold df
  cases (aF t a==aF t b)
  ·simp only[cond_false,Bool.not_false,cond_true]
   cases decide ((t.getD (aF t b).toNat ax).2.2.2.2.1<(t.getD (aF t a).toNat ax).2.2.2.2.1)
   ·simp only[cond_false]
    cases ((t.getD (aF t b).toNat ax).2.2.2.2.1==(t.getD (aF t a).toNat ax).2.2.2.2.1)
    ·rfl
    ·simp only[cond_true]
     cases cX (t.getD (aF t b).toNat ax) (t.getD (aF t a).toNat ax)<;>rfl
   ·rfl
  ·rfl
theorem XI {N:Nat} {l:List Int} {n:Int} {kf:Int→Option aa} (hl:l.length≤maxLen) (hN:l.length<N):SH N l n kf=kf (fB (fun x:Int=>n==x) l):=by
 unfold SH
 rw[Ie hl hN,je (p:=fun x:Int=>n==x) (kf:=fun i=>kf (i:Int)) (fun i x next=>rfl)]
 unfold fB
 cases gN (fun x:Int=>n==x) l 0<;>rfl
theorem jh {t:List aB} {a:Int} (ha:aF t a≥0):df t a∈t∧(df t a).1=a:=by
 obtain⟨k,hk,e,h1,_⟩:=b7 (p:=fun x:aB=>x.1==a) (l:=t) (by unfold aF at ha;omega)
 have e:aF t a=(k:Int):=e
 unfold df
 rw[e,Int.toNat_natCast,ai _ _ hk]
 exact⟨List.getElem_mem hk,by simpa using h1⟩
theorem abQ {t:List aB} (ht:allI (jB t) t 0=true) {x:aB} (hx:x∈t) {a:Int} (e:x.1=a):df t a=x:=by
 obtain⟨i,hi,rfl⟩:=List.mem_iff_getElem.1 hx
 unfold df
 rw[(FV ht hi).2 e.symm,Int.toNat_natCast,ai _ _ hi]
theorem XJ {t:List aB} (ht:allI (jB t) t 0=true) {a:Int} (ha:aF t a≥0):∃ k:Nat,∃ hk:k<(mC t).length,fB (fun x:Int=>a==x) ((mC t).map fun x:aB=>x.1)=(k:Int)∧(mC t)[k]=df t a:=by
 obtain⟨h1,h2⟩:=jh ha
 have nA:a∈(mC t).map fun x:aB=>x.1:=List.mem_map.2 ⟨df t a,Io.2 h1,h2⟩
 by_cases hn:fB (fun x:Int=>a==x) ((mC t).map fun x:aB=>x.1)<0
 ·obtain⟨j,hj,e⟩:=List.mem_iff_getElem.1 nA
  have:=(AR hn).2 j hj
  rw[e] at this
  simp at this
 ·obtain⟨k,hk,e,h3,_⟩:=b7 hn
  rw[List.length_map] at hk
  refine⟨k,hk,e,?_⟩
  rw[List.getElem_map,beq_iff_eq] at h3
  exact(abQ ht (Io.1 (List.getElem_mem hk)) h3.symm).symm
theorem amu {t:List aB} (ht:allI (jB t) t 0=true) {a b:Int} (ha:aF t a≥0) (hb:aF t b≥0) (Ry:a≠b):decide (fB (fun x:Int=>a==x) ((mC t).map fun x:aB=>x.1)<fB (fun x:Int=>b==x) ((mC t).map fun x:aB=>x.1))=!cX (df t b) (df t a):=by
 obtain⟨i,hi,e1,h1⟩:=XJ ht ha
 obtain⟨j,hj,e2,h2⟩:=XJ ht hb
 have hs:=List.pairwise_iff_getElem.1 (JR t)
 rw[e1,e2]
 rcases Nat.lt_trichotomy i j with h |h |h
 ·have:=hs i j hi hj h
  rw[h1,h2] at this
  unfold RD at this
  rw[this,decide_eq_true (by omega)];rfl
 ·subst h
  have:df t a=df t b:=by rw[←h1,←h2]
  exact absurd (by rw[←(jh ha).2,←(jh hb).2,this]) Ry
 ·have:=hs j i hj hi h
  rw[h1,h2] at this
  unfold RD at this
  have h3:=Tr (a:=df t a) (b:=df t b) (by rw[(jh ha).2,(jh hb).2];exact Ry) this
  rw[h3,decide_eq_false (by omega)];rfl
theorem amv {N:Nat} {t:List aB} {a b:Int} {kf:cu→Option aa} (hl:t.length≤maxLen) (hm:∀ x∈t,x.met.length≤maxLen∧x.met.length<N) (hN:t.length<N) (CN:20<N):ak3 N t a b kf=kf (Ot t a b):=by
 have hx:=ar
 unfold ak3 Ot
 rw[mq hl hN,mq hl hN,lB hl hm hN]
 cases du:aG t with
 |false=>rfl
 |true=>
  have AU:=du
  unfold aG at AU
  simp only[Bool.and_eq_true,decide_eq_true_eq] at AU
  obtain⟨h10,ht,_⟩:=AU
  by_cases ha:aF t a≥0
  rotate_left
  ·rw[decide_eq_true (show aF t a<0 by omega),decide_eq_false ha];rfl
  by_cases hb:aF t b≥0
  rotate_left
  ·rw[decide_eq_false (show ¬aF t a<0 by omega),decide_eq_true ha,decide_eq_true (show aF t b<0 by omega),decide_eq_false hb];rfl
  rw[decide_eq_true ha,decide_eq_true hb,decide_eq_false (show ¬aF t a<0 by omega),decide_eq_false (show ¬aF t b<0 by omega),(eX ha).1,(eX hb).1,XE hl hm hN CN]
  have hlen:=ta t
  have b5:mD t=(mC t).map fun x:aB=>x.1:=by unfold mD;rw[du];rfl
  have G5:(mD t).length=t.length:=by rw[b5,List.length_map,hlen]
  rw[XI (by omega) (by omega)]
  simp only[XI (N:=N) (l:=mD t) (by omega) (by omega)]
  by_cases Ry:a=b
  ·subst Ry;simp
  ·have nH:aF t a≠aF t b:=fun e=>Ry (by rw[←(jh ha).2,←(jh hb).2];unfold df;rw[e])
   have e1:(aF t a==aF t b)=false:=by simpa using nH
   simp only[cond_true,cond_false,Bool.not_true,Bool.true_and,bne,e1,Bool.not_false]
   rw[b5,amu ht ha hb Ry]
   show(bif decide ((df t a).2.2.2.2.1<(df t b).2.2.2.2.1) then kf (a,b) else bif (df t a).2.2.2.2.1==(df t b).2.2.2.2.1 then(bif !cX (df t b) (df t a) then kf (a,b) else kf (b,a)) else kf (b,a))=_
   rcases Int.lt_trichotomy (df t a).2.2.2.2.1 (df t b).2.2.2.2.1 with h |h |h
   ·rw[decide_eq_true h,decide_eq_false (by omega),cond_true,cond_false]
    have:((df t b).2.2.2.2.1==(df t a).2.2.2.2.1)=false:=by simp;omega
    rw[this];rfl
   ·rw[h,decide_eq_false (Int.lt_irrefl _),cond_false,beq_self_eq_true,cond_true,cond_true,cond_false]
    cases cX (df t b) (df t a)<;>rfl
   ·rw[decide_eq_false (by omega),decide_eq_true h,cond_true,cond_false]
    have:((df t a).2.2.2.2.1==(df t b).2.2.2.2.1)=false:=by simp;omega
    rw[this];rfl
theorem amw {N:Nat} {a b:List Int} {kf:List Int→Option aa} (ha:a.length≤1048700) (hb:b.length≤1048700) (hN:2<N):ak2 N [a,b] kf=kf (a++b):=by
 have hm:=ar
 unfold ak2
 rw[aba (by simp;omega) (by simpa using hN)]
 simp only[bQ]
 rw[wrap64 (n:=(0:Int)+(List.length a:Int)) (by omega) (by omega),decide_eq_false (by omega),cond_false,wrap64 (n:=(0:Int)+(List.length a:Int)+(List.length b:Int)) (by omega) (by omega),decide_eq_false (by omega),cond_false]
 unfold avb
 have e:(List.isEmpty ([]:List Int)&&(decide ((0:Int)≤0+(List.length a:Int)+(List.length b:Int))&&decide (0+(List.length a:Int)+(List.length b:Int)≤(549755813888:Int))))=true:=by
  rw[decide_eq_true (by omega),decide_eq_true (by omega)];rfl
 rw[e,cond_true]
 show kF [a,b] (List.length [a,b]:Int) N kf [] 0=_
 rw[Tg (by simp;omega) (by simpa using hN)]
 simp only[bQ]
 rw[decide_eq_true (by simp;omega),cond_true,decide_eq_true (by simp;omega),cond_true]
 rfl
end Go.Pv.R
namespace Go.Pv.R
set_option linter.unusedVariables false
set_option linter.unusedSimpArgs false
def nm (L:List Int) (i:Nat):List Int:=List.drop 1 (List.take i L)++List.drop (i+1) L
theorem ou {L:List Int} {i:Nat} (h1:1≤i) (h:i<L.length):(nm L i).length=L.length - 2:=by simp[nm];omega
def qF (t:List aB) (f:List Int→Option (List cu)) (L:List Int):Nat→Nat→Option (List cu)
 |0,_=>none
 |k+1,i=>bif cA t (L.getD 0 0) (L.getD i 0) then
   (match f (nm L i) with
    |some r=>some (Ot t (L.getD 0 0) (L.getD i 0)::r)
    |none=>qF t f L k (i+1))
  else qF t f L k (i+1)
def ov (t:List aB):Nat→List Int→Option (List cu)
 |0,_=>none
 |n+1,L=>bif decide (L.length=0) then some [] else qF t (ov t n) L (L.length - 1) 1
def Dw {α β:Type} (o:Option (List α)) (k:List α→Bool→β):β:=match o with |some r=>k r true |none=>k [] false
theorem AW {t:List aB} {f:List Int→Option (List cu)} {L:List Int} (hf:∀ (L':List Int) r,f L'=some r→2*r.length=L'.length):∀ (k i:Nat) r,1≤i→i+k=L.length→qF t f L k i=some r→2*r.length=L.length
 |0,i,r,h0,h,e=>by simp[qF] at e
 |k+1,i,r,h0,h,e=>by
  unfold qF at e
  cases hm:cA t (L.getD 0 0) (L.getD i 0) with
  |false=>rw[hm,cond_false] at e;exact AW hf k (i+1) r (by omega) (by omega) e
  |true=>
   rw[hm,cond_true] at e
   cases hr:f (nm L i) with
   |none=>rw[hr] at e;exact AW hf k (i+1) r (by omega) (by omega) e
   |some r'=>
    rw[hr] at e
    injection e with e
    subst e
    have h1:=hf _ _ hr
    rw[ou h0 (by omega)] at h1
    simp only[List.length_cons]
    omega
theorem tc {t:List aB}:∀ (n:Nat) (L:List Int) r,ov t n L=some r→2*r.length=L.length
 |0,L,r,e=>by simp[ov] at e
 |n+1,L,r,e=>by
  unfold ov at e
  by_cases h:L.length=0
  ·rw[decide_eq_true h,cond_true] at e
   injection e with e
   subst e
   simp[h]
  ·rw[decide_eq_false h,cond_false] at e
   exact AW (fun L' r' e'=>tc n L' r' e') (L.length - 1) 1 r (by omega) (by omega) e
theorem Ou {L:List Int} {i:Nat} (h1:1≤i) (h:i<L.length):(decide ((0:Int)≤(1:Int))&&decide ((1:Int)≤(i:Int))&&decide ((i:Int)≤(List.length L:Int)))=true∧(decide ((0:Int)≤((i+1:Nat):Int))&&decide (((i+1:Nat):Int)≤(List.length L:Int))&&decide ((List.length L:Int)≤(List.length L:Int)))=true:=by
 constructor
 ·rw[decide_eq_true (by omega),decide_eq_true (by omega),decide_eq_true (by omega)];rfl
 ·rw[decide_eq_true (by omega),decide_eq_true (by omega),decide_eq_true (by omega)];rfl
theorem F8 {N B:Nat} {self:List aB→List Int→(List cu→Bool→Option aa)→Option aa} {t:List aB} {f:List Int→Option (List cu)} {L:List Int} {k0:Option aa} {kf:List cu→Bool→Option aa}
  (hl:t.length≤maxLen) (hm:∀ x∈t,x.met.length≤maxLen∧x.met.length<N) (hN:t.length<N) (CN:20<N) (hL:L.length≤1000)
  (hs:∀ (i:Nat) k,1≤i→i<L.length→self t (nm L i) k=Dw (f (nm L i)) k) (Cs:∀ (L':List Int) r,f L'=some r→2*r.length=L'.length):∀ (k i n:Nat),1≤i→i+k=L.length→k<n→
  pQ N self t L n k0 kf (i:Int)=match qF t f L k i with |some r=>kf r true |none=>k0
 |0,i,n+1,h1,h,hn=>by
  simp only[pQ]
  rw[decide_eq_false (by omega)]
  rfl
 |k+1,i,n+1,h1,h,hn=>by
  have hx:=ar
  have ih:=F8 (k0:=k0) (kf:=kf) (B:=B) hl hm hN CN hL hs Cs k (i+1) n (by omega) (by omega) (by omega)
  obtain⟨d1,d2⟩:=Ou (L:=L) h1 (by omega)
  have ew:IntKind.wrap .i64 ((i:Int)+1)=((i+1:Nat):Int):=fH (m:=L.length) (i:=i) (by omega) (by omega)
  simp only[pQ]
  rw[decide_eq_true (by omega),cond_true,show aM (0:Int) (List.length L)=true from an (i:=0) (show 0<L.length by omega),cond_true,an (show i<L.length by omega),cond_true,Xu hl hm hN]
  unfold qF
  show(bif !cA t (L.getD 0 0) (L.getD i 0) then _ else _)=_
  cases cA t (L.getD 0 0) (L.getD i 0) with
  |false=>
   simp only[Bool.not_false,cond_true,cond_false]
   rw[ew]
   exact ih
  |true=>
   simp only[Bool.not_true,cond_true,cond_false]
   rw[d1,cond_true,ew,d2,cond_true]
   have e3:(([]:List Int)++List.drop (Int.toNat (1:Int)) (List.take (Int.toNat (i:Int)) L))++List.drop (Int.toNat ((i+1:Nat):Int)) (List.take (Int.toNat (List.length L:Int)) L)=nm L i:=by
    rw[Int.toNat_natCast,Int.toNat_natCast,Int.toNat_natCast,List.take_length];rfl
   rw[e3]
   rw[decide_eq_true (by simp;omega),cond_true,decide_eq_true (by simp;omega),cond_true,hs i _ h1 (by omega)]
   unfold Dw
   cases hr:f (nm L i) with
   |none=>exact ih
   |some r=>
    have h2:=Cs _ _ hr
    rw[ou h1 (by omega)] at h2
    simp only[cond_true]
    rw[amt hl hm hN,decide_eq_true (by simp;omega),cond_true]
    rfl
theorem XK {t:List aB} {B:Nat} (hl:t.length≤maxLen) (hm:∀ x∈t,x.met.length≤maxLen∧x.met.length<B) (hB:t.length<B) (CN:20<B):∀ (n N:Nat) (L:List Int) (kf:List cu→Bool→Option aa),L.length≤n→L.length<B→L.length≤1000→B+n+1≤N→S6 N t L kf=Dw (ov t (n+1) L) kf
 |n,0,L,kf,_,_,_,h=>by omega
 |n,N+1,L,kf,h1,h2,h3,h=>by
  show S5 (S6 N) N t L kf=_
  unfold S5 ov
  by_cases h0:L.length=0
  ·rw[decide_eq_true h0,cond_true]
   have:((List.length L:Int)==0)=true:=by simp[h0]
   rw[this];rfl
  ·rw[decide_eq_false h0,cond_false]
   have:((List.length L:Int)==0)=false:=by simp;intro e;exact h0 (by simp[e])
   rw[this,cond_false]
   obtain⟨n,rfl⟩:∃ m,n=m+1:=⟨n - 1,by omega⟩
   have:=F8 (N:=N) (B:=B) (self:=S6 N) (t:=t) (f:=ov t (n+1)) (L:=L) (k0:=kf [] false) (kf:=kf) hl (fun x hx=>⟨(hm x hx).1,by have:=(hm x hx).2;omega⟩) (by omega) (by omega) h3 (fun i k hi1 mI=>by
    have hr:=ou hi1 mI
    exact XK hl hm hB CN n N (nm L i) k (by omega) (by omega) (by omega) (by omega)) (fun L' r e=>tc (n+1) L' r e) (L.length - 1) 1 N (by omega) (by omega) (by omega)
   refine Eq.trans this ?_
   unfold Dw
   cases qF t (ov t (n+1)) L (L.length - 1) 1<;>rfl
theorem F9 {N B:Nat} {self:List aB→List Int→(List cu→Bool→Option aa)→Option aa} {t:List aB} {f:List Int→Option (List cu)} {L:List Int} {k0:Option aa} {kf:List cu→Bool→Option aa}
  (hl:t.length≤maxLen) (hm:∀ x∈t,x.met.length≤maxLen∧x.met.length<N) (hN:t.length<N) (CN:20<N) (hL:L.length≤1000)
  (hs:∀ (i:Nat) k,1≤i→i<L.length→self t (nm L i) k=Dw (f (nm L i)) k) (Cs:∀ (L':List Int) r,f L'=some r→2*r.length=L'.length):∀ (k i n:Nat),1≤i→i+k=L.length→k<n→
  pG N self t L n k0 kf (i:Int)=match qF t f L k i with |some r=>kf r true |none=>k0
 |0,i,n+1,h1,h,hn=>by
  simp only[pG]
  rw[decide_eq_false (by omega)]
  rfl
 |k+1,i,n+1,h1,h,hn=>by
  have hx:=ar
  have ih:=F9 (k0:=k0) (kf:=kf) (B:=B) hl hm hN CN hL hs Cs k (i+1) n (by omega) (by omega) (by omega)
  obtain⟨d1,d2⟩:=Ou (L:=L) h1 (by omega)
  have ew:IntKind.wrap .i64 ((i:Int)+1)=((i+1:Nat):Int):=fH (m:=L.length) (i:=i) (by omega) (by omega)
  simp only[pG]
  rw[decide_eq_true (by omega),cond_true,show aM (0:Int) (List.length L)=true from an (i:=0) (show 0<L.length by omega),cond_true,an (show i<L.length by omega),cond_true,afN hl hm hN]
  unfold qF
  show(bif !cA t (L.getD 0 0) (L.getD i 0) then _ else _)=_
  cases cA t (L.getD 0 0) (L.getD i 0) with
  |false=>
   simp only[Bool.not_false,cond_true,cond_false]
   rw[ew]
   exact ih
  |true=>
   simp only[Bool.not_true,cond_true,cond_false]
   rw[d1,cond_true,ew,d2,cond_true]
   have e3:List.drop (Int.toNat (1:Int)) (List.take (Int.toNat (i:Int)) L)++List.drop (Int.toNat ((i+1:Nat):Int)) (List.take (Int.toNat (List.length L:Int)) L)=nm L i:=by
    rw[Int.toNat_natCast,Int.toNat_natCast,Int.toNat_natCast,List.take_length];rfl
   rw[amw (by simp;omega) (by simp;omega) (by omega),e3,hs i _ h1 (by omega)]
   unfold Dw
   cases hr:f (nm L i) with
   |none=>exact ih
   |some r=>
    have h2:=Cs _ _ hr
    rw[ou h1 (by omega)] at h2
    simp only[cond_true]
    rw[amv hl hm hN CN,decide_eq_true (by simp;omega),cond_true]
    rfl
theorem XL {t:List aB} {B:Nat} (hl:t.length≤maxLen) (hm:∀ x∈t,x.met.length≤maxLen∧x.met.length<B) (hB:t.length<B) (CN:20<B):∀ (n N:Nat) (L:List Int) (kf:List cu→Bool→Option aa),L.length≤n→L.length<B→L.length≤1000→B+n+1≤N→SP N t L kf=Dw (ov t (n+1) L) kf
 |n,0,L,kf,_,_,_,h=>by omega
 |n,N+1,L,kf,h1,h2,h3,h=>by
  show SO (SP N) N t L kf=_
  unfold SO ov
  by_cases h0:L.length=0
  ·rw[decide_eq_true h0,cond_true]
   have:((List.length L:Int)==0)=true:=by simp[h0]
   rw[this];rfl
  ·rw[decide_eq_false h0,cond_false]
   have:((List.length L:Int)==0)=false:=by simp;intro e;exact h0 (by simp[e])
   rw[this,cond_false]
   obtain⟨n,rfl⟩:∃ m,n=m+1:=⟨n - 1,by omega⟩
   have:=F9 (N:=N) (B:=B) (self:=SP N) (t:=t) (f:=ov t (n+1)) (L:=L) (k0:=kf [] false) (kf:=kf) hl (fun x hx=>⟨(hm x hx).1,by have:=(hm x hx).2;omega⟩) (by omega) (by omega) h3 (fun i k hi1 mI=>by
    have hr:=ou hi1 mI
    exact XL hl hm hB CN n N (nm L i) k (by omega) (by omega) (by omega) (by omega)) (fun L' r e=>tc (n+1) L' r e) (L.length - 1) 1 N (by omega) (by omega) (by omega)
   refine Eq.trans this ?_
   unfold Dw
   cases qF t (ov t (n+1)) L (L.length - 1) 1<;>rfl
def kU (t:List aB):Option (List cu):=bif aG t then bif decide (t.length%2=1) then none else ov t (t.length+1) (mD t) else none
theorem vq {t:List aB} (h:aG t=true):(mD t).length=t.length:=by unfold mD;rw[h,cond_true,List.length_map,ta]
theorem F' {t:List aB} {r:List cu} (h:kU t=some r):2*r.length=t.length∧t.length≤10:=by
 unfold kU at h
 cases du:aG t with
 |false=>rw[du] at h;simp at h
 |true=>
  have AU:=du
  unfold aG at AU
  simp only[Bool.and_eq_true,decide_eq_true_eq] at AU
  rw[du,cond_true] at h
  by_cases ho:t.length%2=1
  ·rw[decide_eq_true ho] at h;simp at h
  ·rw[decide_eq_false ho,cond_false] at h
   have:=tc _ _ _ h
   rw[vq du] at this
   exact⟨this,AU.1⟩
theorem atd (n:Nat):(Int.tmod (n:Int) 2==1)=decide (n%2=1):=by
 have:Int.tmod (n:Int) 2=((n%2:Nat):Int):=by
  rw[Int.tmod_eq_emod_of_nonneg (by omega)];omega
 rw[this]
 by_cases h:n%2=1
 ·rw[h];rfl
 ·rw[decide_eq_false h];simp;omega
theorem awb {N:Nat} {t:List aB} {kf:List cu→Bool→Option aa} (hl:t.length≤maxLen) (hm:∀ x∈t,x.met.length≤maxLen∧x.met.length+20<N) (hN:t.length+20<N) (h60:60<N):S91 N t kf=Dw (kU t) kf:=by
 have hx:=ar
 unfold S91 kU
 rw[kg hl (fun x hx=>⟨(hm x hx).1,by have:=(hm x hx).2;omega⟩) (by omega)]
 cases du:aG t with
 |false=>rfl
 |true=>
  have AU:=du
  unfold aG at AU
  simp only[Bool.and_eq_true,decide_eq_true_eq] at AU
  rw[atd]
  by_cases ho:t.length%2=1
  ·rw[decide_eq_true ho];rfl
  ·rw[decide_eq_false ho]
   simp only[Bool.not_true,cond_true,cond_false]
   rw[amq hl (fun x hx=>⟨(hm x hx).1,by have:=(hm x hx).2;omega⟩) (by omega)]
   have hs:=vq du
   exact XK (B:=N - 15) hl (fun x hx=>⟨(hm x hx).1,by have:=(hm x hx).2;omega⟩) (by omega) (by omega) t.length N _ _ (by omega) (by omega) (by omega) (by omega)
theorem amx {N:Nat} {t:List aB} {kf:List cu→Bool→Option aa} (hl:t.length≤maxLen) (hm:∀ x∈t,x.met.length≤maxLen∧x.met.length+20<N) (hN:t.length+20<N) (h60:60<N):ak4 N t kf=Dw (kU t) kf:=by
 have hx:=ar
 unfold ak4 kU
 rw[lB hl (fun x hx=>⟨(hm x hx).1,by have:=(hm x hx).2;omega⟩) (by omega)]
 cases du:aG t with
 |false=>rfl
 |true=>
  have AU:=du
  unfold aG at AU
  simp only[Bool.and_eq_true,decide_eq_true_eq] at AU
  rw[atd]
  by_cases ho:t.length%2=1
  ·rw[decide_eq_true ho];rfl
  ·rw[decide_eq_false ho]
   simp only[Bool.not_true,cond_true,cond_false]
   rw[XE hl (fun x hx=>⟨(hm x hx).1,by have:=(hm x hx).2;omega⟩) (by omega) (by omega)]
   have hs:=vq du
   exact XL (B:=N - 15) hl (fun x hx=>⟨(hm x hx).1,by have:=(hm x hx).2;omega⟩) (by omega) (by omega) t.length N _ _ (by omega) (by omega) (by omega) (by omega)
end Go.Pv.R
namespace Go.Pv.R
set_option linter.unusedVariables false
set_option linter.unusedSimpArgs false
def si (t:List aB) (js:List aZ) (p:cu) (used:List Int) (f:List Int→Option (List Int)):Nat→Nat→Option (List Int)
 |0,_=>none
 |k+1,i=>bif lC used (js.getD i cg).1 then si t js p used f k (i+1) else
   bif dy t (js.getD i cg) p then
   (match f (used++[(js.getD i cg).1]) with
    |some r=>some ((js.getD i cg).1::r)
    |none=>si t js p used f k (i+1))
  else si t js p used f k (i+1)
def qG (t:List aB) (js:List aZ):List cu→List Int→Option (List Int)
 |[],_=>some []
 |p::ps,used=>si t js p used (qG t js ps) js.length 0
def awc {α β:Type} (o:Option (List α)) (k0:β) (k:List α→Bool→β):β:=match o with |some r=>k r true |none=>k0
theorem XM {α β:Type} (o:Option (List α)) (k:List α→Bool→β):awc o (k [] false) k=Dw o k:=by cases o<;>rfl
def Tt (js:List aZ) (n:Nat) (used r:List Int):Prop:=r.length=n∧r.Nodup∧∀ x∈r,x∈js.map (fun x:aZ=>x.1)∧x∉used
theorem td {t:List aB} {js:List aZ} {p:cu} {used:List Int} {f:List Int→Option (List Int)} {n:Nat} (hf:∀ u r,f u=some r→Tt js n u r):∀ (k i:Nat) r,i+k=js.length→si t js p used f k i=some r→Tt js (n+1) used r
 |0,i,r,h,e=>by simp[si] at e
 |k+1,i,r,h,e=>by
  unfold si at e
  cases hu:lC used (js.getD i cg).1 with
  |true=>rw[hu,cond_true] at e;exact td hf k (i+1) r (by omega) e
  |false=>
   rw[hu,cond_false] at e
   cases hm:dy t (js.getD i cg) p with
   |false=>rw[hm,cond_false] at e;exact td hf k (i+1) r (by omega) e
   |true=>
    rw[hm,cond_true] at e
    cases hr:f (used++[(js.getD i cg).1]) with
    |none=>rw[hr] at e;exact td hf k (i+1) r (by omega) e
    |some r'=>
     rw[hr] at e
     injection e with e
     subst e
     obtain⟨h1,h2,h3⟩:=hf _ _ hr
     have e7:(js.getD i cg).1∈js.map (fun x:aZ=>x.1):=by
      rw[ai _ _ (show i<js.length by omega)]
      exact List.mem_map.2 ⟨_,List.getElem_mem _,rfl⟩
     have hnu:(js.getD i cg).1∉used:=fun hc=>by
      have:=mv.2 hc
      rw[hu] at this
      cases this
     refine⟨by simp[h1],List.nodup_cons.2 ⟨fun hc=>?_,h2⟩,fun x hx=>?_⟩
     ·have:=(h3 _ hc).2
      simp at this
     ·rcases List.mem_cons.1 hx with rfl |hx
      ·exact⟨e7,hnu⟩
      ·obtain⟨q1,q2⟩:=h3 x hx
       refine⟨q1,fun hc=>q2 ?_⟩
       simp[hc]
theorem sj {t:List aB} {js:List aZ}:∀ (ps:List cu) (used r:List Int),qG t js ps used=some r→Tt js ps.length used r
 |[],used,r,e=>by
  unfold qG at e
  injection e with e
  subst e
  exact⟨rfl,List.nodup_nil,fun x hx=>by simp at hx⟩
 |p::ps,used,r,e=>td (fun u r e=>sj ps u r e) js.length 0 r (by omega) e
theorem oy:∀ (r L:List Int),r.Nodup→(∀ x∈r,x∈L)→r.length≤L.length
 |[],L,_,_=>by simp
 |x::r,L,hn,h=>by
  rw[List.nodup_cons] at hn
  have hx:=h x (by simp)
  have h1:=List.length_erase_of_mem hx
  have h2:=List.length_pos_of_mem hx
  have:=oy r (L.erase x) hn.2 fun y hy=>by
   have nH:y≠x:=fun e=>hn.1 (e▸hy)
   exact(List.mem_erase_of_ne nH).2 (h y (by simp[hy]))
  simp only[List.length_cons]
  omega
theorem af0 {t:List aB} {js:List aZ} {ps:List cu} {used r:List Int} (h:qG t js ps used=some r):ps.length≤js.length:=by
 obtain⟨h1,h2,h3⟩:=sj ps used r h
 have:=oy r (js.map fun x:aZ=>x.1) h2 fun x hx=>(h3 x hx).1
 rw[List.length_map] at this
 omega
theorem XN {p:cu} {ps:List cu}:(decide ((0:Int)≤(1:Int))&&decide ((1:Int)≤(List.length (p::ps):Int))&&decide ((List.length (p::ps):Int)≤(List.length (p::ps):Int)))=true∧List.drop (Int.toNat (1:Int)) (List.take (Int.toNat (List.length (p::ps):Int)) (p::ps))=ps:=by
 constructor
 ·rw[decide_eq_true (by omega),decide_eq_true (by simp only[List.length_cons];omega),decide_eq_true (by omega)];rfl
 ·rw[Int.toNat_natCast,List.take_length];rfl
theorem Ga {N:Nat} {self:List aB→List aZ→List cu→List Int→(List Int→Bool→Option aa)→Option aa} {t:List aB} {js:List aZ} {p:cu} {ps:List cu} {used:List Int} {f:List Int→Option (List Int)} {k0:Option aa} {kf:List Int→Bool→Option aa}
  (hl:t.length≤maxLen) (hN:t.length<N) (CN:20<N) (hj:js.length≤1048700) (xO:∀ x∈js,x.2.2.length≤maxLen∧x.2.2.length<N) (hu:used.length≤1000) (huN:used.length<N)
  (hs:∀ (x:Int) k,self t js ps (used++[x]) k=Dw (f (used++[x])) k) (Cs:∀ (u:List Int) r,f u=some r→r.length≤1000):∀ (k i n:Nat),i+k=js.length→k<n→
  m9 N self t js (p::ps) used n k0 kf (i:Int)=awc (si t js p used f k i) k0 kf
 |0,i,n+1,h,hn=>by
  simp only[m9]
  rw[decide_eq_false (by omega)]
  rfl
 |k+1,i,n+1,h,hn=>by
  have hx:=ar
  have ih:=Ga (k0:=k0) (kf:=kf) (p:=p) hl hN CN hj xO hu huN hs Cs k (i+1) n (by omega) (by omega)
  have ew:IntKind.wrap .i64 ((i:Int)+1)=((i+1:Nat):Int):=fH (m:=js.length) (i:=i) (by omega) (by omega)
  obtain⟨d1,d2⟩:=XN (p:=p) (ps:=ps)
  have hi:i<js.length:=by omega
  obtain⟨m1,m2⟩:=xO js[i] (List.getElem_mem hi)
  simp only[m9]
  rw[decide_eq_true (by omega),cond_true,an hi,cond_true,qd (by omega) huN]
  unfold si
  have eg:js.getD (Int.toNat (i:Int)) cg=js[i]:=ai _ _ hi _
  have eg2:js.getD i cg=js[i]:=ai _ _ hi _
  rw[eg,eg2]
  cases lC used js[i].1 with
  |true=>
   simp only[cond_true]
   rw[ew]
   exact ih
  |false=>
   simp only[cond_false]
   rw[cond_true,show aM (0:Int) (List.length (p::ps))=true from an (i:=0) (by simp),cond_true,Xv hl hN m1 m2]
   show(bif !dy t js[i] p then _ else _)=_
   cases dy t js[i] p with
   |false=>
    simp only[Bool.not_false,cond_true,cond_false]
    rw[ew]
    exact ih
   |true=>
    simp only[Bool.not_true,cond_true,cond_false]
    rw[d1,cond_true,d2,decide_eq_true (by simp;omega),cond_true,decide_eq_true (by simp;omega),cond_true,List.nil_append,hs,ew]
    unfold Dw
    cases hr:f (used++[js[i].1]) with
    |none=>exact ih
    |some r=>
     have:=Cs _ _ hr
     simp only[cond_true]
     rw[decide_eq_true (by simp;omega),cond_true]
     rfl
theorem Gb {N:Nat} {self:List aB→List aZ→List cu→List Int→(List Int→Bool→Option aa)→Option aa} {t:List aB} {js:List aZ} {p:cu} {ps:List cu} {used:List Int} {f:List Int→Option (List Int)} {k0:Option aa} {kf:List Int→Bool→Option aa}
  (hl:t.length≤maxLen) (hN:t.length<N) (CN:20<N) (hj:js.length≤1048700) (xO:∀ x∈js,x.2.2.length≤maxLen∧x.2.2.length<N) (hu:used.length≤1000) (huN:used.length<N)
  (hs:∀ (x:Int) k,self t js ps (used++[x]) k=Dw (f (used++[x])) k) (Cs:∀ (u:List Int) r,f u=some r→r.length≤1000):∀ (k i n:Nat),i+k=js.length→k<n→
  mW N self t js (p::ps) used js (js.length:Int) n k0 kf (i:Int)=awc (si t js p used f k i) k0 kf
 |0,i,n+1,h,hn=>by
  simp only[mW]
  rw[decide_eq_false (by omega)]
  rfl
 |k+1,i,n+1,h,hn=>by
  have hx:=ar
  have ih:=Gb (k0:=k0) (kf:=kf) (p:=p) hl hN CN hj xO hu huN hs Cs k (i+1) n (by omega) (by omega)
  have ew:IntKind.wrap .i64 ((i:Int)+1)=((i+1:Nat):Int):=fH (m:=js.length) (i:=i) (by omega) (by omega)
  obtain⟨d1,d2⟩:=XN (p:=p) (ps:=ps)
  have hi:i<js.length:=by omega
  obtain⟨m1,m2⟩:=xO js[i] (List.getElem_mem hi)
  simp only[mW]
  rw[decide_eq_true (by omega),cond_true,an hi,cond_true,JG (by omega) huN]
  unfold si
  have eg:js.getD (Int.toNat (i:Int)) cg=js[i]:=ai _ _ hi _
  have eg2:js.getD i cg=js[i]:=ai _ _ hi _
  rw[eg,eg2]
  cases lC used js[i].1 with
  |true=>
   simp only[cond_true]
   rw[ew]
   exact ih
  |false=>
   simp only[cond_false]
   rw[show aM (0:Int) (List.length (p::ps))=true from an (i:=0) (by simp),cond_true,afO hl hN m1 m2 (by omega)]
   show(bif !dy t js[i] p then _ else _)=_
   cases dy t js[i] p with
   |false=>
    simp only[Bool.not_false,cond_true,cond_false]
    rw[ew]
    exact ih
   |true=>
    simp only[Bool.not_true,cond_true,cond_false]
    rw[d1,cond_true,d2,DL (by omega),decide_eq_true (by simp;omega),cond_true,hs,ew]
    unfold Dw
    cases hr:f (used++[js[i].1]) with
    |none=>exact ih
    |some r=>
     have:=Cs _ _ hr
     simp only[cond_true]
     rw[decide_eq_true (by simp;omega),cond_true]
     rfl
theorem XO {t:List aB} {js:List aZ} {B:Nat} (hl:t.length≤maxLen) (hN:t.length<B) (CN:20<B) (hj:js.length≤1048700) (hjN:js.length<B) (xO:∀ x∈js,x.2.2.length≤maxLen∧x.2.2.length<B):∀ (ps:List cu) (N:Nat) (used:List Int) (kf:List Int→Bool→Option aa),used.length+ps.length≤900→used.length+ps.length<B→B+ps.length+1≤N→S9 N t js ps used kf=Dw (qG t js ps used) kf
 |ps,0,used,kf,_,_,h=>by omega
 |[],N+1,used,kf,_,_,_=>rfl
 |p::ps,N+1,used,kf,h1,h2,h=>by
  simp only[List.length_cons] at h h1 h2
  show S8 (S9 N) N t js (p::ps) used kf=_
  unfold S8 qG
  have e:((List.length (p::ps):Int)==0)=false:=by simp;omega
  rw[e,cond_false,←XM]
  exact Ga (N:=N) (self:=S9 N) (f:=qG t js ps) hl (by omega) (by omega) hj (fun x hx=>⟨(xO x hx).1,by have:=(xO x hx).2;omega⟩) (by omega) (by omega) (fun x k=>XO hl hN CN hj hjN xO ps N _ k (by simp;omega) (by simp;omega) (by omega)) (fun u r e=>by have:=(sj ps u r e).1;omega) js.length 0 N (by omega) (by omega)
theorem XP {t:List aB} {js:List aZ} {B:Nat} (hl:t.length≤maxLen) (hN:t.length<B) (CN:20<B) (hj:js.length≤1048700) (hjN:js.length<B) (xO:∀ x∈js,x.2.2.length≤maxLen∧x.2.2.length<B):∀ (ps:List cu) (N:Nat) (used:List Int) (kf:List Int→Bool→Option aa),used.length+ps.length≤900→used.length+ps.length<B→B+ps.length+1≤N→SS N t js ps used kf=Dw (qG t js ps used) kf
 |ps,0,used,kf,_,_,h=>by omega
 |[],N+1,used,kf,_,_,_=>rfl
 |p::ps,N+1,used,kf,h1,h2,h=>by
  simp only[List.length_cons] at h h1 h2
  show SR (SS N) N t js (p::ps) used kf=_
  unfold SR qG
  have e:((List.length (p::ps):Int)==0)=false:=by simp;omega
  rw[e,cond_false,←XM]
  exact Gb (N:=N) (self:=SS N) (f:=qG t js ps) hl (by omega) (by omega) hj (fun x hx=>⟨(xO x hx).1,by have:=(xO x hx).2;omega⟩) (by omega) (by omega) (fun x k=>XP hl hN CN hj hjN xO ps N _ k (by simp;omega) (by simp;omega) (by omega)) (fun u r e=>by have:=(sj ps u r e).1;omega) js.length 0 N (by omega) (by omega)
def jk (t:List aB) (js:List aZ) (ps:List cu):Option (List Int):=bif bZ js&&aG t then qG t js ps [] else none
theorem af1 {N:Nat} {t:List aB} {js:List aZ} {ps:List cu} {kf:List Int→Bool→Option aa} (hl:t.length≤maxLen) (hm:∀ x∈t,x.met.length≤maxLen∧x.met.length+20<N) (hN:t.length+20<N) (h60:60<N) (hj:js.length≤1048700) (hjN:js.length+20<N) (xO:∀ x∈js,x.2.2.length≤maxLen∧x.2.2.length+20<N) (hp:ps.length≤10):S92 N t js ps kf=Dw (jk t js ps) kf:=by
 have hx:=ar
 unfold S92 jk
 rw[JH (by omega) (fun x hx=>⟨(xO x hx).1,by have:=(xO x hx).2;omega⟩) (by omega)]
 cases bZ js with
 |false=>rfl
 |true=>
  simp only[Bool.not_true,cond_false,Bool.true_and]
  rw[kg hl (fun x hx=>⟨(hm x hx).1,by have:=(hm x hx).2;omega⟩) (by omega)]
  cases aG t with
  |false=>rfl
  |true=>exact XO (B:=N - 15) hl (by omega) (by omega) hj (by omega) (fun x hx=>⟨(xO x hx).1,by have:=(xO x hx).2;omega⟩) ps N [] kf (by simp;omega) (by simp;omega) (by omega)
theorem XQ {N:Nat} {t:List aB} {js:List aZ} {ps:List cu} {kf:List Int→Bool→Option aa} (hl:t.length≤maxLen) (hm:∀ x∈t,x.met.length≤maxLen∧x.met.length+20<N) (hN:t.length+20<N) (h60:60<N) (hj:js.length≤1048700) (hjN:js.length+20<N) (xO:∀ x∈js,x.2.2.length≤maxLen∧x.2.2.length+20<N) (hp:ps.length≤10):ak5 N t js ps kf=Dw (jk t js ps) kf:=by
 have hx:=ar
 unfold ak5 jk
 rw[Tm (by omega) (fun x hx=>⟨(xO x hx).1,by have:=(xO x hx).2;omega⟩) (by omega)]
 cases bZ js with
 |false=>rfl
 |true=>
  simp only[Bool.not_true,cond_false,Bool.true_and]
  rw[lB hl (fun x hx=>⟨(hm x hx).1,by have:=(hm x hx).2;omega⟩) (by omega)]
  cases aG t with
  |false=>rfl
  |true=>
   simp only[Bool.not_true,cond_false,cond_true]
   by_cases hgt:ps.length>js.length
   ·rw[decide_eq_true (by omega),cond_true]
    cases hs:qG t js ps [] with
    |none=>rfl
    |some r=>have:=af0 hs;omega
   ·rw[decide_eq_false (by omega),cond_false]
    exact XP (B:=N - 15) hl (by omega) (by omega) hj (by omega) (fun x hx=>⟨(xO x hx).1,by have:=(xO x hx).2;omega⟩) ps N [] kf (by simp;omega) (by simp;omega) (by omega)
def Ov (c:aL) (ps:List cu) (ss:List Int):aL:=(c.1,(c.2.1,(ps,(ss,(List.replicate ps.length ((0:Int),((0:Int),(0:Int))),c.2.2.2.2.2)))))
def np (c:aL):Bool:=decide (c.2.2.1.length=0)&&decide (0<c.1.length)
def dz (c:aL):aL×Bool:=match kU c.1 with
 |none=>(c,false)
 |some ps=>match jk c.1 c.2.1 ps with
  |none=>(c,false)
  |some ss=>bif np c then(gC c (Ov c ps ss) 3 0,fc c (Ov c ps ss) 3 0) else(c,false)
theorem Ow {c:aL} {N:Nat} {ps:List cu} {ss:List Int} (h:br c N) (hp:ps.length≤10) (hs:ss.length≤10) (hN:60<N):br (Ov c ps ss) N:=
 ⟨h.tl,h.tm,h.tN,h.jl,h.jm,h.jN,by show ps.length≤_;omega,by show 2*ps.length<_;omega,by show ss.length≤_;omega,by show ss.length<_;omega,by show(List.replicate _ _).length≤_;rw[List.length_replicate];omega,by show(List.replicate _ _).length<_;rw[List.length_replicate];omega,h.ml,h.mN,h.n8,h.tb,h.tmb,h.jb,h.jmb⟩
theorem Gc {t:List aB} {js:List aZ} {ps:List cu} {ss:List Int} (h:jk t js ps=some ss):ss.length=ps.length:=by
 unfold jk at h
 cases hb:(bZ js&&aG t) with
 |false=>rw[hb] at h;simp at h
 |true=>rw[hb,cond_true] at h;exact(sj _ _ _ h).1
theorem awd {N:Nat} {c:aL} {kf:aL→Bool→Option aa} (h:br c N) (h':br c (N - 40)) (hN:200<N) (hl:c.2.2.2.2.2.1.length+1<N):S21 N c kf=kf (dz c).1 (dz c).2:=by
 have hx:=ar
 have t1:=h'.tN
 have t2:=h'.jN
 have t3:=h'.tm
 have t4:=h'.jm
 have hj:=h.jb
 have htm:∀ x:aB,x∈c.1→x.met.length≤maxLen∧x.met.length+20<N:=fun x hx=>⟨(t3 x hx).1,by have:=(t3 x hx).2;omega⟩
 have xO:∀ x∈c.2.1,x.2.2.length≤maxLen∧x.2.2.length+20<N:=fun x hx=>⟨(t4 x hx).1,by have:=(t4 x hx).2;omega⟩
 have uB:∀ out cQ iI,S93 N c out false cQ iI kf=kf c false:=fun out cQ iI=>(vo (out:=out) h (fun e=>by cases e) hN hl)
 unfold S21 dz
 rw[qh h,awb h.tl htm (by omega) (by omega)]
 unfold Dw
 cases hr:kU c.1 with
 |none=>
  simp only[]
  rw[af1 h.tl htm (by omega) (by omega) hj (by omega) xO (by simp)]
  unfold Dw
  cases jk c.1 c.2.1 []<;>exact uB _ _ _
 |some ps=>
  obtain⟨l1,l2⟩:=F' hr
  simp only[]
  rw[af1 h.tl htm (by omega) (by omega) hj (by omega) xO (by omega)]
  unfold Dw
  have e0:(decide ((List.length ps:Int)=(List.length ps:Int))&&decide ((0:Int)≤(List.length ps:Int))&&decide ((List.length ps:Int)≤1099511627776))=true:=by
   rw[decide_eq_true rfl,decide_eq_true (by omega),decide_eq_true (by omega)];rfl
  have e0t:(decide True&&decide ((0:Int)≤(List.length ps:Int))&&decide ((List.length ps:Int)≤1099511627776))=true:=by
   rw[decide_eq_true trivial,decide_eq_true (by omega),decide_eq_true (by omega)];rfl
  cases hs:jk c.1 c.2.1 ps with
  |none=>
   simp only[]
   first |rw[e0] |rw[e0t]
   exact uB _ _ _
  |some ss=>
   have l3:=Gc hs
   have hd:=fun ok=>vo (out:=Ov c ps ss) (ok:=ok) (cQ:=3) (iI:=0) (kf:=kf) h (fun _=>Ow h (by omega) (by omega) (by omega)) hN hl
   simp only[]
   first |rw[e0] |rw[e0t]
   simp only[cond_true]
   unfold S94 np
   by_cases cp:c.2.2.1.length=0
   ·rw[decide_eq_false (show ¬(List.length c.2.2.1:Int)>0 by omega),decide_eq_true cp]
    simp only[Bool.not_false,cond_true,Bool.true_and]
    have e2:decide ((List.length c.1:Int)>(0:Int))=decide (0<c.1.length):=decide_eq_decide.2 (by omega)
    rw[e2]
    refine(hd (decide (0<c.1.length))).trans ?_
    cases decide (0<c.1.length)<;>rfl
   ·rw[decide_eq_true (show(List.length c.2.2.1:Int)>0 by omega),decide_eq_false cp]
    exact uB _ _ _
theorem awe {N:Nat} {c:aL} {kf:aL→Bool→Option aa} (h:br c N) (h':br c (N - 40)) (hN:200<N) (hl:c.2.2.2.2.2.1.length+1<N):I23 N c kf=kf (dz c).1 (dz c).2:=by
 have hx:=ar
 have t1:=h'.tN
 have t2:=h'.jN
 have t3:=h'.tm
 have t4:=h'.jm
 have hj:=h.jb
 have htm:∀ x:aB,x∈c.1→x.met.length≤maxLen∧x.met.length+20<N:=fun x hx=>⟨(t3 x hx).1,by have:=(t3 x hx).2;omega⟩
 have xO:∀ x∈c.2.1,x.2.2.length≤maxLen∧x.2.2.length+20<N:=fun x hx=>⟨(t4 x hx).1,by have:=(t4 x hx).2;omega⟩
 have uB:cj c=false→dz c=(c,false):=fun hc=>by
  have hd:∀ out cQ iI,fc c out cQ iI=false:=fun out cQ iI=>by unfold fc;rw[hc];simp
  have hd2:∀ out cQ iI,gC c out cQ iI=c:=fun out cQ iI=>by unfold gC;rw[hd];rfl
  unfold dz
  cases kU c.1 with
  |none=>rfl
  |some ps=>
   simp only[]
   cases jk c.1 c.2.1 ps with
   |none=>rfl
   |some ss=>
    simp only[hd,hd2]
    cases np c<;>rfl
 have aAN:np c=false→dz c=(c,false):=fun hc=>by
  unfold dz
  cases kU c.1 with
  |none=>rfl
  |some ps=>
   simp only[]
   cases jk c.1 c.2.1 ps with
   |none=>rfl
   |some ss=>
    simp only[hc]
    rfl
 unfold I23
 rw[my h,F0 h]
 cases hc:cj c with
 |false=>rw[uB hc];rfl
 |true=>
  unfold I16
  show(bif decide ((List.length c.2.2.1:Int)>(0:Int)) then _ else _)=_
  by_cases cp:c.2.2.1.length=0
  rotate_left
  ·rw[decide_eq_true (show(List.length c.2.2.1:Int)>0 by omega),cond_true,aAN (by unfold np;rw[decide_eq_false cp];rfl)]
  rw[decide_eq_false (show ¬(List.length c.2.2.1:Int)>0 by omega),cond_false]
  by_cases h0:c.1.length=0
  ·have e:((List.length c.1:Int)==0)=true:=by simp[h0]
   rw[e,cond_true,aAN (by unfold np;rw[decide_eq_false (show ¬ 0<c.1.length by omega)];simp)]
  have e:((List.length c.1:Int)==0)=false:=by simp;intro q;exact h0 (by simp[q])
  have hmp:np c=true:=by unfold np;rw[decide_eq_true cp,decide_eq_true (show 0<c.1.length by omega)];rfl
  rw[e,cond_false,amx h.tl htm (by omega) (by omega)]
  unfold Dw dz
  cases hr:kU c.1 with
  |none=>
   simp only[]
   rw[XQ h.tl htm (by omega) (by omega) hj (by omega) xO (by simp)]
   unfold Dw
   cases jk c.1 c.2.1 []<;>rfl
  |some ps=>
   obtain⟨l1,l2⟩:=F' hr
   simp only[]
   rw[XQ h.tl htm (by omega) (by omega) hj (by omega) xO (by omega)]
   unfold Dw
   have e0:(decide ((List.length ps:Int)=(List.length ps:Int))&&decide ((0:Int)≤(List.length ps:Int))&&decide ((List.length ps:Int)≤1099511627776))=true:=by
    rw[decide_eq_true rfl,decide_eq_true (by omega),decide_eq_true (by omega)];rfl
   have e0t:(decide True&&decide ((0:Int)≤(List.length ps:Int))&&decide ((List.length ps:Int)≤1099511627776))=true:=by
    rw[decide_eq_true trivial,decide_eq_true (by omega),decide_eq_true (by omega)];rfl
   cases hs:jk c.1 c.2.1 ps with
   |none=>rfl
   |some ss=>
    have l3:=Gc hs
    simp only[hmp,cond_true]
    first |rw[e0] |rw[e0t]
    simp only[cond_true,Bool.not_true,cond_false]
    exact s9 (out:=Ov c ps ss) h (Ow h (by omega) (by omega) (by omega)) rfl hN hl
end Go.Pv.R
namespace Go.Pv.R
set_option linter.unusedVariables false
set_option linter.unusedSimpArgs false
def ofM (b:eY):Int:=bif decide (b.2.1>b.2.2) then 1 else 2
theorem Ip (b:eY):ofM b=1∨ofM b=2:=by
 unfold ofM
 cases decide (b.2.1>b.2.2)<;>simp
theorem amy {N:Nat} {b:eY} {kf:Int→Option aa}:aaY N b kf=kf (ofM b):=by
 unfold aaY ofM
 cases decide (b.2.1>b.2.2)<;>rfl
theorem amz {N:Nat} {b:eY} {kf:Int→Option aa}:aaJ N b kf=kf (ofM b):=by
 unfold aaJ ofM
 cases decide (b.2.1>b.2.2)<;>rfl
theorem Ox {N:Nat} {b:eY} {kf:Bool→Option aa} (hN:2<N):Te N [b] kf=kf (cf b):=by
 have hm:=ar
 unfold Te
 rw[abD (by simp;omega) (by simp;omega)]
 simp only[kC,JJ]
 cases cf b<;>rfl
theorem sk {N:Nat} {b:eY} {kf:Bool→Option aa} (hN:2<N):aaI N [b] kf=kf (cf b):=by
 have hm:=ar
 unfold aaI
 rw[abb (by simp;omega) (by simp;omega)]
 simp only[kC,JK]
 cases cf b<;>rfl
def Iq (b:eY) (k:Int):Int:=bif ofM b==k then 1 else 0
theorem af2 {N:Nat} {b:eY} {k:Int} {kf:Int→Option aa} (hN:2<N) (hb:cf b=true):afa N [b] k kf=kf (Iq b k):=by
 have hm:=ar
 unfold afa Iq
 rw[abE (by simp;omega) (by simp;omega)]
 simp only[bQ,Ox hN,hb,cond_true,amy]
 cases ofM b==k<;>rfl
theorem af3 {N:Nat} {b:eY} {k:Int} {kf:Int→Option aa} (hN:2<N) (hb:cf b=true):aeH N [b] k kf=kf (Iq b k):=by
 have hm:=ar
 unfold aeH Iq
 rw[sk hN,hb]
 simp only[Bool.not_true,cond_false]
 rw[abc (by simp;omega) (by simp;omega)]
 simp only[bQ,amz]
 cases ofM b==k<;>rfl
theorem Oy {N:Nat} {b:eY} {kf:Int→Option aa} {k:Int} (hN:2<N) (hb:cf b=true):∃ r,∀ kf,SU N [b] k kf=kf r:=by
 have hm:=ar
 by_cases h1:k=1
 ·subst h1
  refine⟨IntKind.wrap .i64 (0+b.2.1),fun kf=>?_⟩
  unfold SU
  rw[sk hN,hb]
  simp only[Bool.not_true,cond_false]
  rw[AQ (by simp;omega) (by simp;omega)]
  simp only[bQ]
  rfl
 ·have e1:(k==(1:Int))=false:=by simpa using h1
  by_cases h2:k=2
  ·subst h2
   refine⟨IntKind.wrap .i64 (0+b.2.2),fun kf=>?_⟩
   unfold SU
   rw[sk hN,hb]
   simp only[Bool.not_true,cond_false]
   rw[AQ (by simp;omega) (by simp;omega)]
   simp only[bQ]
   rfl
  ·have e2:(k==(2:Int))=false:=by simpa using h2
   refine⟨0,fun kf=>?_⟩
   unfold SU
   rw[sk hN,hb]
   simp only[Bool.not_true,cond_false]
   rw[AQ (by simp;omega) (by simp;omega)]
   simp only[bQ,e1,e2,cond_false]
theorem af4 {N:Nat} {b:eY} {kf:Int→Option aa} (hN:2<N) (hb:cf b=true):aaZ N [b] kf=kf (ofM b):=by
 unfold aaZ
 have e:((List.length [b]:Int)==(0:Int))=false:=rfl
 rw[e,cond_false,Ox hN,hb]
 simp only[Bool.not_true,cond_false,af2 hN hb]
 unfold Iq
 rcases Ip b with h |h<;>rw[h]<;>rfl
theorem af5 {N:Nat} {b:eY} {kf:Int→Option aa} (hN:2<N) (hb:cf b=true):aaK N [b] kf=kf (ofM b):=by
 unfold aaK
 have e:((List.length [b]:Int)==(0:Int))=false:=rfl
 obtain⟨r1,h1⟩:=Oy (N:=N) (b:=b) (kf:=kf) (k:=1) hN hb
 obtain⟨r2,h2⟩:=Oy (N:=N) (b:=b) (kf:=kf) (k:=2) hN hb
 rw[e,cond_false,sk hN,hb]
 simp only[Bool.not_true,cond_false,af3 hN hb,h1,h2]
 unfold Iq
 rcases Ip b with h |h<;>rw[h]<;>rfl
def two {α:Type} (t:List α) (i j:Nat) (x y:α):List α:=(t.set i x).set j y
section
variable {α:Type} {t:List α} {i j:Nat} {x y x' y' z:α}
theorem xP:(two t i j x y).length=t.length:=by simp[two]
theorem Oz (h:i≠j) (hi:i<t.length):(two t i j x y).getD i z=x:=by
 rw[List.getD_eq_getElem?_getD,two,List.getElem?_set_ne (by omega),List.getElem?_set_self hi];rfl
theorem OA (hj:j<t.length):(two t i j x y).getD j z=y:=by
 rw[List.getD_eq_getElem?_getD,two,List.getElem?_set_self (by simpa using hj)];rfl
theorem OB (h:i≠j):(two t i j x y).set i x'=two t i j x' y:=by
 unfold two
 rw[List.set_comm _ _ (fun e=>h e.symm),List.set_set]
theorem OC:(two t i j x y).set j y'=two t i j x y':=by
 unfold two
 rw[List.set_set]
theorem OD (h:i≠j):(t.set i x).getD j z=t.getD j z:=by
 rw[List.getD_eq_getElem?_getD,List.getElem?_set_ne (by omega),←List.getD_eq_getElem?_getD]
theorem XR:(t.set i x).set j y=two t i j x y:=by rw[two]
end
def tG (t:List aB) (i:Nat) (b d p:Int):aB:=((t.getD i ax).1,((t.getD i ax).2.1,((bif d==1 then IntKind.wrap .i64 ((t.getD i ax).2.2.1+1) else(t.getD i ax).2.2.1),(IntKind.wrap .i64 ((t.getD i ax).2.2.2.1+p),(IntKind.wrap .i64 ((t.getD i ax).2.2.2.2.1+1),(t.getD i ax).2.2.2.2.2++[b])))))
def la (t:List aB) (j:Nat) (a d q:Int):aB:=((t.getD j ax).1,((t.getD j ax).2.1,((bif d==1 then(t.getD j ax).2.2.1 else IntKind.wrap .i64 ((t.getD j ax).2.2.1+1)),(IntKind.wrap .i64 ((t.getD j ax).2.2.2.1+q),((t.getD j ax).2.2.2.2.1,(t.getD j ax).2.2.2.2.2++[a])))))
def Hm (t:List aB) (a b d p q:Int):List aB:=two t (aF t a).toNat (aF t b).toNat (tG t (aF t a).toNat b d p) (la t (aF t b).toNat a d q)
def JS (t:List aB) (a b d p q:Int):Bool:=aG t&&(decide (aF t a≥0)&&(decide (aF t b≥0)&&((aF t a != aF t b)&&(gO d 1 2&&(gO p 0 1000&&gO q 0 1000)))))
def tY (t:List aB) (a b d p q:Int):Bool:=JS t a b d p q&&aG (Hm t a b d p q)
def JT (t:List aB) (a b d p q:Int):List aB:=bif tY t a b d p q then Hm t a b d p q else t
theorem sn {t:List aB} {a b d p q:Int} {N:Nat} (ha:aF t a≥0) (hb:aF t b≥0) (h:∀ x:aB,x∈t→x.met.length+1<N):∀ x:aB,x∈Hm t a b d p q→x.met.length<N:=by
 intro x hx
 unfold Hm two at hx
 rcases List.mem_or_eq_of_mem_set hx with hx |rfl
 ·rcases List.mem_or_eq_of_mem_set hx with hx |rfl
  ·have:=h x hx;omega
  ·have:=h _ (jh ha).1
   show((t.getD (aF t a).toNat ax).2.2.2.2.2++[b]).length<N
   rw[List.length_append];exact this
 ·have:=h _ (jh hb).1
  show((t.getD (aF t b).toNat ax).2.2.2.2.2++[a]).length<N
  rw[List.length_append];exact this
theorem amA {N:Nat} {t:List aB} {a b d p q:Int} {kf:List aB→Bool→Option aa} (hl:t.length≤1048700) (hm:∀ x:aB,x∈t→x.met.length≤1048700∧x.met.length+1<N) (hN:t.length<N):aa0 N t a b d p q kf=kf (JT t a b d p q) (tY t a b d p q):=by
 have hx:=ar
 have hm1:∀ x∈t,x.met.length≤maxLen∧x.met.length<N:=fun x hx=>by have:=hm x hx;omega
 unfold aa0 JT tY JS
 rw[qg hl (fun x hx=>(hm x hx).1) hN,jf (by omega) hN,jf (by omega) hN,kg (by omega) hm1 hN]
 simp only[lA]
 cases aG t with
 |false=>rfl
 |true=>
  by_cases ha:aF t a≥0
  rotate_left
  ·rw[decide_eq_true (show aF t a<0 by omega),decide_eq_false ha];rfl
  by_cases hb:aF t b≥0
  rotate_left
  ·rw[decide_eq_false (show ¬aF t a<0 by omega),decide_eq_true ha,decide_eq_true (show aF t b<0 by omega),decide_eq_false hb];rfl
  have hT:∀ x:aB,x∈Hm t a b d p q→x.met.length<N:=sn ha hb fun x hx=>(hm x hx).2
  have hT2:∀ x:aB,x∈Hm t a b d p q→x.met.length<1048800:=sn ha hb fun x hx=>by have:=(hm x hx).1;omega
  obtain⟨i,hi,ei,_⟩:=b7 (p:=fun x:aB=>x.1==a) (l:=t) (by unfold aF at ha;omega)
  obtain⟨j,hj,ej,_⟩:=b7 (p:=fun x:aB=>x.1==b) (l:=t) (by unfold aF at hb;omega)
  have ei:aF t a=(i:Int):=ei
  have ej:aF t b=(j:Int):=ej
  unfold Hm at hT hT2 ⊢
  rw[ei,ej] at hT hT2 ⊢
  simp only[Int.toNat_natCast] at hT hT2 ⊢
  rw[decide_eq_true (show(i:Int)≥0 by omega),decide_eq_true (show(j:Int)≥0 by omega),decide_eq_false (show ¬(i:Int)<0 by omega),decide_eq_false (show ¬(j:Int)<0 by omega)]
  simp only[Bool.not_true,cond_false,Bool.true_and]
  by_cases uq:i=j
  ·subst uq;simp
  have e1:((i:Int)==(j:Int))=false:=by simpa using fun e=>uq (by omega)
  have e2:((i:Int) != (j:Int))=true:=by simp only[bne,e1];rfl
  rw[e1,e2]
  cases gO d 1 2 with
  |false=>rfl
  |true=>
  cases gO p 0 1000 with
  |false=>rfl
  |true=>
  cases gO q 0 1000 with
  |false=>rfl
  |true=>
  have li:=(hm _ (List.getElem_mem hi)).1
  have lj:=(hm _ (List.getElem_mem hj)).1
  have gi:t.getD i ax=t[i]:=ai _ _ hi _
  have gj:t.getD j ax=t[j]:=ai _ _ hj _
  have b1:decide ((List.length (t.getD i ax).2.2.2.2.2+List.length [b])*1≤4398046511104)=true:=by rw[gi];exact decide_eq_true (by have:t[i].2.2.2.2.2.length≤1048700:=li;simp;omega)
  have b2:decide ((List.length (t.getD j ax).2.2.2.2.2+List.length [a])*1≤4398046511104)=true:=by rw[gj];exact decide_eq_true (by have:t[j].2.2.2.2.2.length≤1048700:=lj;simp;omega)
  simp only[OD uq,List.length_set,an hi,an hj,cond_true,cond_false,Bool.not_true,b1,b2,Nat.beq_refl,share,XR,xP,Oz uq hi,OA hj,OB uq,OC,Bool.true_and]
  have hW:(two t i j (tG t i b d p) (la t j a d q)).length=t.length:=xP
  have key:DJ N t kf (two t i j (tG t i b d p) (la t j a d q))=kf (bif aG (two t i j (tG t i b d p) (la t j a d q)) then two t i j (tG t i b d p) (la t j a d q) else t) (aG (two t i j (tG t i b d p) (la t j a d q))):=by
   unfold DJ
   rw[kg (by omega) (fun x hx=>⟨by have:=hT2 x hx;omega,hT x hx⟩) (by omega)]
   cases aG (two t i j (tG t i b d p) (la t j a d q)) with
   |false=>simp only[Bool.not_false,cond_true,cond_false];rw[qg hl (fun x hx=>(hm x hx).1) hN]
   |true=>rfl
  refine Eq.trans ?_ key
  unfold tG la
  cases d==1<;>rfl
theorem amB {N:Nat} {t:List aB} {a b d p q:Int} {kf:List aB→Bool→Option aa} (hl:t.length≤1048700) (hm:∀ x:aB,x∈t→x.met.length≤1048700∧x.met.length+1<N) (hN:t.length<N):aaL N t a b d p q kf=kf (JT t a b d p q) (tY t a b d p q):=by
 have hx:=ar
 have hm1:∀ x∈t,x.met.length≤maxLen∧x.met.length<N:=fun x hx=>by have:=hm x hx;omega
 unfold aaL JT tY JS
 rw[JP hl (fun x hx=>(hm x hx).1) hN,mq (by omega) hN,mq (by omega) hN,lB (by omega) hm1 hN]
 simp only[ni]
 cases aG t with
 |false=>rfl
 |true=>
  by_cases ha:aF t a≥0
  rotate_left
  ·rw[decide_eq_true (show aF t a<0 by omega),decide_eq_false ha];rfl
  by_cases hb:aF t b≥0
  rotate_left
  ·rw[decide_eq_false (show ¬aF t a<0 by omega),decide_eq_true ha,decide_eq_true (show aF t b<0 by omega),decide_eq_false hb];rfl
  have hT:∀ x:aB,x∈Hm t a b d p q→x.met.length<N:=sn ha hb fun x hx=>(hm x hx).2
  have hT2:∀ x:aB,x∈Hm t a b d p q→x.met.length<1048800:=sn ha hb fun x hx=>by have:=(hm x hx).1;omega
  obtain⟨i,hi,ei,_⟩:=b7 (p:=fun x:aB=>x.1==a) (l:=t) (by unfold aF at ha;omega)
  obtain⟨j,hj,ej,_⟩:=b7 (p:=fun x:aB=>x.1==b) (l:=t) (by unfold aF at hb;omega)
  have ei:aF t a=(i:Int):=ei
  have ej:aF t b=(j:Int):=ej
  unfold Hm at hT hT2 ⊢
  rw[ei,ej] at hT hT2 ⊢
  simp only[Int.toNat_natCast] at hT hT2 ⊢
  rw[decide_eq_true (show(i:Int)≥0 by omega),decide_eq_true (show(j:Int)≥0 by omega),decide_eq_false (show ¬(i:Int)<0 by omega),decide_eq_false (show ¬(j:Int)<0 by omega)]
  simp only[Bool.not_true,cond_false,Bool.true_and]
  by_cases uq:i=j
  ·subst uq;simp
  have e1:((i:Int)==(j:Int))=false:=by simpa using fun e=>uq (by omega)
  have e2:((i:Int) != (j:Int))=true:=by simp only[bne,e1];rfl
  rw[e1,e2]
  cases gO d 1 2 with
  |false=>rfl
  |true=>
  cases gO p 0 1000 with
  |false=>rfl
  |true=>
  cases gO q 0 1000 with
  |false=>rfl
  |true=>
  have li:=(hm _ (List.getElem_mem hi)).1
  have lj:=(hm _ (List.getElem_mem hj)).1
  have gi:t.getD i ax=t[i]:=ai _ _ hi _
  have gj:t.getD j ax=t[j]:=ai _ _ hj _
  have b1:decide ((List.length (t.getD i ax).2.2.2.2.2+List.length [b])*1≤4398046511104)=true:=by rw[gi];exact decide_eq_true (by have:t[i].2.2.2.2.2.length≤1048700:=li;simp;omega)
  have b2:decide ((List.length (t.getD j ax).2.2.2.2.2+List.length [a])*1≤4398046511104)=true:=by rw[gj];exact decide_eq_true (by have:t[j].2.2.2.2.2.length≤1048700:=lj;simp;omega)
  have hnb:Nat.beq i j=false:=by
   cases h:Nat.beq i j with
   |false=>rfl
   |true=>exact absurd (Nat.eq_of_beq_eq_true h) uq
  have hW:(two t i j (tG t i b d p) (la t j a d q)).length=t.length:=xP
  have key:(AF N (two t i j (tG t i b d p) (la t j a d q)) (fun(Ju:Bool)=>
       bif (!Ju) then
        Sy N t (fun(Jv:(List QT))=>
         kf Jv false)
       else
        kf (two t i j (tG t i b d p) (la t j a d q)) true))=kf (bif aG (two t i j (tG t i b d p) (la t j a d q)) then two t i j (tG t i b d p) (la t j a d q) else t) (aG (two t i j (tG t i b d p) (la t j a d q))):=by
   rw[lB (by omega) (fun x hx=>⟨by have:=hT2 x hx;omega,hT x hx⟩) (by omega)]
   cases aG (two t i j (tG t i b d p) (la t j a d q)) with
   |false=>simp only[Bool.not_false,cond_true,cond_false];rw[JP hl (fun x hx=>(hm x hx).1) hN]
   |true=>rfl
  refine Eq.trans ?_ key
  simp only[Jt,Int.toNat_natCast,hnb,Bool.not_false,Bool.and_true,OD uq,List.length_set,an hi,an hj,cond_true,cond_false,Bool.not_true,b1,b2,Nat.beq_refl,share,XR,xP,Oz uq hi,OA hj,OB uq,OC,Bool.true_and]
  unfold tG la
  cases d==1<;>rfl
end Go.Pv.R
namespace Go.Pv
set_option linter.unusedVariables false
theorem Ir {α β:Type} {f:α→β} {p:β→Bool}:∀ (l:List α) (i:Nat),gN p (l.map f) i=gN (fun x=>p (f x)) l i
 |[],_=>rfl
 |x::r,i=>by
  simp only[List.map_cons,gN,Ir r]
theorem tZ {α β:Type} {c:Nat→α→Bool} {f:Nat→α→β}:∀ (l:List α) (i:Nat),(kh c f l i).length=0→∀ (j:Nat) (h:j<l.length),c (i+j) l[j]=false
 |[],i,_,j,h=>by simp at h
 |x::r,i,hl,j,h=>by
  simp only[kh] at hl
  cases hc:c i x with
  |true=>rw[hc] at hl;simp at hl
  |false=>
   rw[hc,cond_false] at hl
   cases j with
   |zero=>exact hc
   |succ j=>have:=tZ r (i+1) hl j (by simpa using h);rw[show i+(j+1)=i+1+j by omega];exact this
theorem awf {l:List Nat} {M:Nat} (h:∀ x∈l,x≤M):l.sum≤l.length*M:=by
 induction l with
 |nil=>simp
 |cons x r ih=>
  have h1:=ih fun y hy=>h y (by simp[hy])
  have h2:=h x (by simp)
  simp only[List.sum_cons,List.length_cons,Nat.succ_mul]
  omega
theorem CP {t:Ty} {l:List t.I} {M:Nat} (h:∀ x∈l,ah t x≤M):ah (.sl t) l≤l.length+l.length*M:=by
 have:=awf (l:=l.map (ah t)) (M:=M) (by
  intro y hy
  obtain⟨x,hx,rfl⟩:=List.mem_map.1 hy
  exact h x hx)
 rw[List.length_map] at this
 simp only[ah]
 omega
end Go.Pv
namespace Go.Pv.R
set_option linter.unusedVariables false
set_option linter.unusedSimpArgs false
theorem abR {l m:List aZ} {id:Int} (h:l.map (fun x:aZ=>x.1)=m.map fun x:aZ=>x.1):cD l id=cD m id:=by
 unfold cD fB
 have e:∀ l:List aZ,gN (fun x:aZ=>x.1==id) l 0=gN (fun y:Int=>y==id) (l.map fun x:aZ=>x.1) 0:=fun l=>(Ir (f:=fun x:aZ=>x.1) (p:=fun y:Int=>y==id) l 0).symm
 rw[e l,e m,h]
theorem amC {s:List Int} {a b:Int} (h:DM s):dp (kZ (s++[a,b]))=kT (kT s a) b:=by
 obtain⟨h1,h2⟩:=Hk (kZ (s++[a,b])) (afR _)
 refine Xy h1 (rY (rY h)) fun x=>?_
 rw[h2,abK,xK,xK]
 simp only[List.mem_append,List.mem_cons,List.not_mem_nil,or_false]
 constructor
 ·rintro(h |h |h)<;>simp[h]
 ·rintro(h |h |h)<;>simp[h]
theorem Gd {t:List aB} {a b d p q:Int} (h:tY t a b d p q=true):aF t a≥0∧aF t b≥0:=by
 unfold tY JS at h
 simp only[Bool.and_eq_true,decide_eq_true_eq] at h
 exact⟨h.1.2.1,h.1.2.2.1⟩
theorem af6 {t:List aB} {a b d p q:Int}:(JT t a b d p q).length=t.length:=by
 unfold JT
 cases tY t a b d p q with
 |false=>rfl
 |true=>exact xP
theorem af7 {t:List aB} {a b d p q:Int} {M:Nat} (h:∀ x:aB,x∈t→x.met.length≤M):∀ x:aB,x∈JT t a b d p q→x.met.length≤M+1:=by
 intro x hx
 unfold JT at hx
 cases hb:tY t a b d p q with
 |false=>rw[hb,cond_false] at hx;have:=h x hx;omega
 |true=>
  rw[hb,cond_true] at hx
  have:=sn (N:=M+2) (Gd hb).1 (Gd hb).2 (fun x hx=>by have:=h x hx;omega) x hx
  omega
def af8 (js:List aZ) (k:Nat) (a b:Int):List aZ:=js.set k ((js.getD k cg).1,((js.getD k cg).2.1,kT (kT (js.getD k cg).2.2 a) b))
theorem af9 {js:List aZ} {k:Nat} {a b:Int} (hk:k<js.length):(af8 js k a b).map (fun x:aZ=>x.1)=js.map fun x:aZ=>x.1:=by
 unfold af8
 rw[List.map_set]
 apply List.ext_getElem (by simp)
 intro i h1 h2
 rw[List.getElem_set]
 split
 ·rename_i e
  subst e
  rw[ai _ _ hk]
  simp
 ·rfl
theorem af' {js:List aZ} {k:Nat} {a b:Int} {M:Nat} (hk:k<js.length) (h:∀ x:aZ,x∈js→DM x.2.2∧x.2.2.length≤M):∀ x:aZ,x∈af8 js k a b→DM x.2.2∧x.2.2.length≤M+2:=by
 intro x hx
 unfold af8 at hx
 rcases List.mem_or_eq_of_mem_set hx with hx |rfl
 ·have:=h x hx;exact⟨this.1,by omega⟩
 ·have:=h (js.getD k cg) (by rw[ai _ _ hk];exact List.getElem_mem hk)
  have l1:=xL (js.getD k cg).2.2 a
  have l2:=xL (kT (js.getD k cg).2.2 a) b
  refine⟨rY (rY this.1),?_⟩
  show(kT (kT (js.getD k cg).2.2 a) b).length≤M+2
  omega
def ua (c:aL) (i:Nat):eY:=c.2.2.2.2.1.getD i fu
def dV (c:aL) (i:Nat):Int:=c.2.2.2.1.getD i 0
def CQ (c:aL) (i:Nat) (x:cu) (s:aL):Bool:=tY s.1 x.1 x.2 (ofM (ua c i)) (ua c i).2.1 (ua c i).2.2
def vt (c:aL) (i:Nat) (x:cu) (s:aL):aL:=(JT s.1 x.1 x.2 (ofM (ua c i)) (ua c i).2.1 (ua c i).2.2,(af8 s.2.1 (cD s.2.1 (dV c i)).toNat x.1 x.2,s.2.2))
def dL (c:aL):List cu→Nat→aL→Bool→aL×Bool
 |[],_,s,ok=>(s,ok)
 |x::r,i,s,ok=>dL c r (i+1) (vt c i x s) (ok&&CQ c i x s)
structure lD (c:aL):Prop where
 t10:c.1.length≤10
 tm:∀ x:aB,x∈c.1→x.met.length≤20
 Tu:c.2.1.length≤10
 js:∀ x:aZ,x∈c.2.1→DM x.2.2∧x.2.2.length≤99
 r10:c.2.2.1.length≤10
 sl:c.2.2.2.1.length=c.2.2.1.length
 bl:c.2.2.2.2.1.length=c.2.2.1.length
 sf:∀ i,i<c.2.2.1.length→cD c.2.1 (dV c i)≥0
 bb:∀ i,i<c.2.2.1.length→cf (ua c i)=true
structure dt (c:aL) (i:Nat) (s:aL):Prop where
 tl:s.1.length=c.1.length
 tm:∀ x:aB,x∈s.1→x.met.length≤20+i
 ji:s.2.1.map (fun x:aZ=>x.1)=c.2.1.map fun x:aZ=>x.1
 js:∀ x:aZ,x∈s.2.1→DM x.2.2∧x.2.2.length≤99+2*i
 re:s.2.2=c.2.2
theorem dt.awg {c s:aL} {i:Nat} (h:dt c i s):s.2.1.length=c.2.1.length:=by
 have:=congrArg List.length h.ji
 simpa using this
theorem dt.fjd {c s:aL} {i:Nat} (h:dt c i s) (id:Int):cD s.2.1 id=cD c.2.1 id:=abR h.ji
theorem vu {c s:aL} {i:Nat} {x:cu} (hc:lD c) (hi:i<c.2.2.1.length) (h:dt c i s):dt c (i+1) (vt c i x s):=by
 have hf:=hc.sf i hi
 rw[←h.fjd] at hf
 have hk:=(rU hf).2
 exact⟨by rw[←h.tl];exact af6,fun y hy=>by have:=af7 h.tm y hy;omega,by rw[←h.ji];exact af9 hk,fun y hy=>by have:=af' hk h.js y hy;exact⟨this.1,by omega⟩,h.re⟩
theorem vw {c:aL} (hc:lD c):∀ (r:List cu) (i:Nat) (s:aL) (ok:Bool),i+r.length=c.2.2.1.length→dt c i s→dt c c.2.2.1.length (dL c r i s ok).1
 |[],i,s,ok,h,hs=>by
  simp at h
  subst h
  exact hs
 |x::r,i,s,ok,h,hs=>by
  simp only[List.length_cons] at h
  exact vw hc r (i+1) _ _ (by omega) (vu hc (by omega) hs)
theorem xQ {c:aL}:∀ (r:List cu) (i:Nat) (s:aL),(dL c r i s false).2=false
 |[],i,s=>rfl
 |x::r,i,s=>by
  unfold dL
  rw[Bool.false_and]
  exact xQ r (i+1) _
theorem qH {N:Nat} {c:aL} {k:aL→Bool→Option aa} {body:Nat→cu→aL→Bool→(aL→Bool→Option aa)→Option aa}
  (hb:∀ (i:Nat) (x:cu) (s:aL) (ok:Bool) (next:aL→Bool→Option aa),i<c.2.2.1.length→dt c i s→body i x s ok next=next (vt c i x s) (ok&&CQ c i x s)) (hc:lD c):∀ (r:List cu) (i:Nat) (s:aL) (ok:Bool),i+r.length=c.2.2.1.length→dt c i s→aaz body k r i s ok=k (dL c r i s ok).1 (dL c r i s ok).2
 |[],i,s,ok,h,hs=>rfl
 |x::r,i,s,ok,h,hs=>by
  simp only[List.length_cons] at h
  simp only[aaz]
  rw[hb i x s ok _ (by omega) hs]
  exact qH (N:=N) hb hc r (i+1) _ _ (by omega) (vu hc (by omega) hs)
theorem qI {N:Nat} {c:aL} {k:aL→Option aa} {no:Option aa} {body:Nat→cu→aL→(aL→Option aa)→Option aa}
  (hb:∀ (i:Nat) (x:cu) (s:aL) (next:aL→Option aa),i<c.2.2.1.length→dt c i s→body i x s next=bif CQ c i x s then next (vt c i x s) else no) (hc:lD c):∀ (r:List cu) (i:Nat) (s:aL),i+r.length=c.2.2.1.length→dt c i s→bQ body k r i s=bif (dL c r i s true).2 then k (dL c r i s true).1 else no
 |[],i,s,h,hs=>rfl
 |x::r,i,s,h,hs=>by
  simp only[List.length_cons] at h
  simp only[bQ]
  rw[hb i x s _ (by omega) hs]
  unfold dL
  rw[Bool.true_and]
  cases CQ c i x s with
  |false=>rw[xQ];rfl
  |true=>exact qI (N:=N) hb hc r (i+1) _ (by omega) (vu hc (by omega) hs)
theorem Dx {N:Nat} {c s:aL} {i:Nat} {x:cu} {next:aL→Bool→Option aa} {ok:Bool} (hc:lD c) (aBB:200<N) (hi:i<c.2.2.1.length) (h:dt c i s):
  (bif (aM (i:Int) (List.length c.2.2.2.2.1)) then
     aaZ N [(List.getD c.2.2.2.2.1 (Int.toNat (i:Int)) fu)] (fun(FM:Int)=>
      aa0 N s.1 x.1 x.2 FM (List.getD c.2.2.2.2.1 (Int.toNat (i:Int)) fu).2.1 (List.getD c.2.2.2.2.1 (Int.toNat (i:Int)) fu).2.2 (fun(rR:(List QT)) (po:Bool)=>
       bif ok then
        bif (aM (i:Int) (List.length c.2.2.2.1)) then
         FE N s.2.1 (List.getD c.2.2.2.1 (Int.toNat (i:Int)) (0:Int)) (fun(eV:Int)=>
          bif (aM eV (List.length s.2.1)) then
           vg N (List.getD s.2.1 (Int.toNat eV) cg).2.2 x.1 (fun(FN:(List Int))=>
            vg N FN x.2 (fun(xF:(List Int))=>
             bif (aM eV (List.length s.2.1)) then
              next (rR,((List.set s.2.1 (Int.toNat eV) ((List.getD s.2.1 (Int.toNat eV) cg).1,((List.getD s.2.1 (Int.toNat eV) cg).2.1,xF))),s.2.2)) po
             else none))
          else none)
        else none
       else
        bif (aM (i:Int) (List.length c.2.2.2.1)) then
         FE N s.2.1 (List.getD c.2.2.2.1 (Int.toNat (i:Int)) (0:Int)) (fun(eW:Int)=>
          bif (aM eW (List.length s.2.1)) then
           vg N (List.getD s.2.1 (Int.toNat eW) cg).2.2 x.1 (fun(uX:(List Int))=>
            vg N uX x.2 (fun(xG:(List Int))=>
             bif (aM eW (List.length s.2.1)) then
              next (rR,((List.set s.2.1 (Int.toNat eW) ((List.getD s.2.1 (Int.toNat eW) cg).1,((List.getD s.2.1 (Int.toNat eW) cg).2.1,xG))),s.2.2)) false
             else none))
          else none)
        else none))
    else none)=next (vt c i x s) (ok&&CQ c i x s):=by
 have hx:=ar
 have r10:=hc.r10
 have t10:=hc.t10
 have Tu:=hc.Tu
 have tl:=h.tl
 have jl:=h.awg
 have hf:=hc.sf i hi
 rw[←h.fjd] at hf
 obtain⟨f1,f2⟩:=rU hf
 have eb:List.getD c.2.2.2.2.1 (Int.toNat (i:Int)) fu=ua c i:=rfl
 have es:List.getD c.2.2.2.1 (Int.toNat (i:Int)) (0:Int)=dV c i:=rfl
 have hj:=h.js (List.getD s.2.1 (cD s.2.1 (dV c i)).toNat cg) (by rw[ai _ _ f2];exact List.getElem_mem f2)
 have l1:=xL (List.getD s.2.1 (cD s.2.1 (dV c i)).toNat cg).2.2 x.1
 rw[eb,es,an (show i<c.2.2.2.2.1.length by rw[hc.bl];exact hi),an (show i<c.2.2.2.1.length by rw[hc.sl];exact hi),cond_true,af4 (by omega) (hc.bb i hi),amA (by omega) (fun y hy=>by have:=h.tm y hy;omega) (by omega)]
 simp only[cond_true,Xr (N:=N) (l:=s.2.1) (id:=dV c i) (by omega) (by omega),f1,XB (N:=N) (l:=(List.getD s.2.1 (cD s.2.1 (dV c i)).toNat cg).2.2) (n:=x.1) (by omega) (by omega),XB (N:=N) (l:=kT (List.getD s.2.1 (cD s.2.1 (dV c i)).toNat cg).2.2 x.1) (n:=x.2) (by omega) (by omega)]
 cases ok with
 |true=>rfl
 |false=>rfl
theorem Dy {N:Nat} {c s:aL} {i:Nat} {x:cu} {next:aL→Option aa} {kf:aL→Bool→Option aa} (ho:br c N) (hc:lD c) (aBB:200<N) (hi:i<c.2.2.1.length) (h:dt c i s):
  (bif (aM (i:Int) (List.length c.2.2.2.2.1)) then
     aaK N [(List.getD c.2.2.2.2.1 (Int.toNat (i:Int)) fu)] (fun(Fv:Int)=>
      aaL N s.1 x.1 x.2 Fv (List.getD c.2.2.2.2.1 (Int.toNat (i:Int)) fu).2.1 (List.getD c.2.2.2.2.1 (Int.toNat (i:Int)) fu).2.2 (fun(Fw:(List QT)) (Fx:Bool)=>
       bif (!Fx) then
        H8 N c (fun(Fy:QC)=>
         kf Fy false)
       else
        bif (aM (i:Int) (List.length c.2.2.2.1)) then
         SN N s.2.1 (List.getD c.2.2.2.1 (Int.toNat (i:Int)) (0:Int)) (fun(cV:Int)=>
          bif (aM cV (List.length s.2.1)) then
           bif (decide ((List.length (List.getD s.2.1 (Int.toNat cV) cg).2.2+List.length [x.1,x.2])*1≤4398046511104)) then
            aaM N ((List.getD s.2.1 (Int.toNat cV) cg).2.2++[x.1,x.2]) (fun(Fz:(List Int))=>
             aeN N Fz (fun(FA:(List Int))=>
              bif (aM cV (List.length s.2.1)) then
               bif (Nat.beq (Int.toNat cV) (Int.toNat cV)) then
                next (Fw,((List.set s.2.1 (Int.toNat cV) ((List.getD s.2.1 (Int.toNat cV) cg).1,((List.getD s.2.1 (Int.toNat cV) cg).2.1,FA))),s.2.2))
               else none
              else none))
           else none
          else none)
        else none))
    else none)=bif CQ c i x s then next (vt c i x s) else kf c false:=by
 have hx:=ar
 have r10:=hc.r10
 have t10:=hc.t10
 have Tu:=hc.Tu
 have tl:=h.tl
 have jl:=h.awg
 have hf:=hc.sf i hi
 rw[←h.fjd] at hf
 obtain⟨f1,f2⟩:=rU hf
 have eb:List.getD c.2.2.2.2.1 (Int.toNat (i:Int)) fu=ua c i:=rfl
 have es:List.getD c.2.2.2.1 (Int.toNat (i:Int)) (0:Int)=dV c i:=rfl
 have hj:=h.js (List.getD s.2.1 (cD s.2.1 (dV c i)).toNat cg) (by rw[ai _ _ f2];exact List.getElem_mem f2)
 have ed:decide ((List.length (List.getD s.2.1 (cD s.2.1 (dV c i)).toNat cg).2.2+List.length [x.1,x.2])*1≤4398046511104)=true:=decide_eq_true (by simp only[List.length_cons,List.length_nil];omega)
 rw[eb,es,an (show i<c.2.2.2.2.1.length by rw[hc.bl];exact hi),an (show i<c.2.2.2.1.length by rw[hc.sl];exact hi),cond_true,af5 (by omega) (hc.bb i hi),amB (by omega) (fun y hy=>by have:=h.tm y hy;omega) (by omega)]
 simp only[cond_true,my ho,Xs (N:=N) (l:=s.2.1) (id:=dV c i) (by omega) (by omega),f1,ed,Nat.beq_refl]
 rw[amf (by simp only[List.length_append,List.length_cons,List.length_nil];omega),amg,amC hj.1]
 show(bif !CQ c i x s then kf c false else next (vt c i x s))=_
 cases CQ c i x s<;>rfl
end Go.Pv.R
namespace Go.Pv.R
set_option linter.unusedVariables false
set_option linter.unusedSimpArgs false
theorem OE {s:List Int} (h:Od s=true):DM s∧s.length≤99:=by
 unfold Od at h
 rw[fz] at h
 have step:∀ (i:Nat) (hi:i<s.length),(1≤s[i]∧s[i]≤99)∧(0<i→s.getD (i - 1) 0<s[i]):=fun i hi=>by
  have:=h i hi
  rw[Nat.zero_add] at this
  simp only[Bool.and_eq_true,Bool.or_eq_true,decide_eq_true_eq,JM] at this
  exact⟨this.1,fun h0=>by omega⟩
 have mono:∀ (i:Nat) (hi:i<s.length) (j:Nat) (hj:j<i),s[j]'(by omega)<s[i]:=by
  intro i
  induction i with
  |zero=>intro hi j hj;omega
  |succ i ih=>
   intro hi j hj
   have h1:=(step (i+1) hi).2 (by omega)
   rw[Nat.add_sub_cancel,ai _ _ (show i<s.length by omega)] at h1
   rcases Nat.lt_or_eq_of_le (Nat.le_of_lt_succ hj) with h2 |rfl
   ·have:=ih (by omega) j h2;omega
   ·exact h1
 have ha:DM s:=List.pairwise_iff_getElem.2 fun j i hj hi lg=>mono i hi j lg
 refine⟨ha,?_⟩
 have hn:s.Nodup:=ha.imp fun h=>by omega
 have:=oy s ((List.range 100).map fun n:Nat=>(n:Int)) hn fun x hx=>by
  obtain⟨i,hi,rfl⟩:=List.mem_iff_getElem.1 hx
  have:=(step i hi).1
  exact List.mem_map.2 ⟨s[i].toNat,by rw[List.mem_range];omega,by omega⟩
 have h0:(0:Int)∉s:=fun hc=>by
  obtain⟨i,hi,e⟩:=List.mem_iff_getElem.1 hc
  have:=(step i hi).1
  omega
 have:=oy (0::s) ((List.range 100).map fun n:Nat=>(n:Int)) (List.nodup_cons.2 ⟨h0,hn⟩) fun x hx=>by
  rcases List.mem_cons.1 hx with rfl |hx
  ·exact List.mem_map.2 ⟨0,by simp,rfl⟩
  ·obtain⟨i,hi,rfl⟩:=List.mem_iff_getElem.1 hx
   have:=(step i hi).1
   exact List.mem_map.2 ⟨s[i].toNat,by rw[List.mem_range];omega,by omega⟩
 simp only[List.length_cons,List.length_map,List.length_range] at this
 omega
theorem XS {c:aL} (hc:cj c=true) (hr:c.2.2.1.length≠0) (hw:(bw c).length=0):lD c:=by
 obtain⟨l1,l2⟩:=nj hc
 unfold cj at hc
 simp only[Bool.and_eq_true,Bool.or_eq_true,decide_eq_true_eq] at hc
 obtain⟨ht,hj,_,_,_,hs,hb,_⟩:=hc
 have hs:jg c.1 c.2.2.1=true∧dJ c.1 c.2.1 c.2.2.1 c.2.2.2.1=true:=hs.resolve_left hr
 obtain⟨_,hs⟩:=hs
 unfold dJ at hs
 simp only[Bool.and_eq_true,decide_eq_true_eq] at hs
 obtain⟨_,_,hs⟩:=hs
 rw[fz] at hs
 unfold aG at ht
 simp only[Bool.and_eq_true,decide_eq_true_eq] at ht
 obtain⟨t10,htp,_⟩:=ht
 unfold bZ at hj
 simp only[Bool.and_eq_true,decide_eq_true_eq] at hj
 obtain⟨Tu,hjp⟩:=hj
 rw[fz] at htp hjp hb
 have sP:∀ i,i<c.2.2.1.length→cD c.2.1 (dV c i)≥0∧lC (c.2.2.2.1.take i) (dV c i)=false:=fun i hi=>by
  have:=hs i hi
  rw[Nat.zero_add] at this
  unfold rV at this
  simp only[Bool.and_eq_true,decide_eq_true_eq,Bool.not_eq_true'] at this
  exact⟨this.1,this.2.1⟩
 have hn:c.2.2.2.1.Nodup:=List.pairwise_iff_getElem.2 fun i j hi hj uq e=>by
  have h1:=(sP j (by omega)).2
  have h2:lC (c.2.2.2.1.take j) (dV c j)=true:=by
   rw[mv]
   unfold dV
   rw[ai _ _ hj,←e]
   exact List.mem_iff_getElem.2 ⟨i,by rw[List.length_take];omega,by rw[List.getElem_take]⟩
  rw[h1] at h2
  cases h2
 have hle:=oy c.2.2.2.1 (c.2.1.map fun x:aZ=>x.1) hn fun x hx=>by
  obtain⟨i,hi,rfl⟩:=List.mem_iff_getElem.1 hx
  have h1:=(sP i (by omega)).1
  unfold dV at h1
  rw[ai _ _ hi] at h1
  obtain⟨k,hk,e,h2,_⟩:=b7 (p:=fun x:aZ=>x.1==c.2.2.2.1[i]) (l:=c.2.1) (by unfold cD at h1;omega)
  exact List.mem_map.2 ⟨c.2.1[k],List.getElem_mem hk,by simpa using h2⟩
 rw[List.length_map] at hle
 refine⟨t10,fun x hx=>?_,Tu,fun x hx=>?_,by omega,l1,l2,fun i hi=>(sP i hi).1,fun i hi=>?_⟩
 ·obtain⟨i,hi,rfl⟩:=List.mem_iff_getElem.1 hx
  have:=htp i hi
  unfold jB at this
  simp only[Bool.and_eq_true,decide_eq_true_eq] at this
  exact this.2.2.2.2.2.1
 ·obtain⟨i,hi,rfl⟩:=List.mem_iff_getElem.1 hx
  have:=hjp i hi
  unfold nD at this
  simp only[Bool.and_eq_true,decide_eq_true_eq] at this
  exact OE this.2.2.2
 ·have mI:i<c.2.2.2.2.1.length:=by omega
  have h1:=tZ c.2.2.2.2.1 0 hw i mI
  have h2:=hb i mI
  rw[Nat.zero_add] at h2
  unfold ki at h2
  simp only[h1,Bool.false_or,Bool.and_eq_true] at h2
  unfold ua
  rw[ai _ _ mI]
  exact h2.1
def Tv (c s:aL):aL:=(s.1,(s.2.1,([],([],([],(s.2.2.2.2.2.1,IntKind.wrap .i64 (c.2.2.2.2.2.2+(List.length c.2.2.1:Int))))))))
def Ge (c:aL):Bool:=cj c&&(decide (c.2.2.1.length≠0)&&decide ((bw c).length=0))
def iv (c:aL):aL×Bool:=bif Ge c&&(dL c c.2.2.1 0 c true).2 then(gC c (Tv c (dL c c.2.2.1 0 c true).1) 5 0,fc c (Tv c (dL c c.2.2.1 0 c true).1) 5 0) else(c,false)
theorem th {c:aL} (hc:lD c):dt c 0 c:=⟨rfl,fun x hx=>by have:=hc.tm x hx;omega,rfl,fun x hx=>by have:=hc.js x hx;exact⟨this.1,by omega⟩,rfl⟩
theorem XT {c s:aL} {N:Nat} (h:br c N) (hc:lD c) (hs:dt c c.2.2.1.length s) (hN:200<N):br (Tv c s) N:=by
 have hx:=ar
 have r10:=hc.r10
 have t10:=hc.t10
 have Tu:=hc.Tu
 have tl:=hs.tl
 have jl:=hs.awg
 have ht:∀ x:aB,x∈s.1→x.met.length≤40:=fun x hx=>by have:=hs.tm x hx;omega
 have hj:∀ x:aZ,x∈s.2.1→x.2.2.length≤140:=fun x hx=>by have:=(hs.js x hx).2;omega
 have hre:s.2.2.2.2.2.1=c.2.2.2.2.2.1:=by rw[hs.re]
 exact⟨by show s.1.length≤_;omega,fun x hx=>⟨by have:=ht x hx;omega,by have:=ht x hx;omega⟩,by show s.1.length<_;omega,by show s.2.1.length≤_;omega,fun x hx=>⟨by have:=hj x hx;omega,by have:=hj x hx;omega⟩,by show s.2.1.length<_;omega,by show 0≤_;omega,by show 2*0<_;omega,by show 0≤_;omega,by show 0<_;omega,by show 0≤_;omega,by show 0<_;omega,by show s.2.2.2.2.2.1.length≤_;rw[hre];exact h.ml,by show s.2.2.2.2.2.1.length<_;rw[hre];exact h.mN,h.n8,by show s.1.length≤_;omega,fun x hx=>by have:=ht x hx;omega,by show s.2.1.length≤_;omega,fun x hx=>by have:=hj x hx;omega⟩
theorem DQ (n:Nat):decide ((n:Int)>(0:Int))=!decide (n=0):=by
 by_cases h:n=0
 ·rw[decide_eq_false (by omega),decide_eq_true h];rfl
 ·rw[decide_eq_true (by omega),decide_eq_false h];rfl
theorem awh {N:Nat} {c:aL} {kf:aL→Bool→Option aa} (h:br c N) (hN:200<N) (hl:c.2.2.2.2.2.1.length+1<N):S27 N c kf=kf (iv c).1 (iv c).2:=by
 have hx:=ar
 have hr:=h.rl
 have hr2:=h.rN
 unfold S27 iv Ge
 rw[qh h,DK h]
 cases hc:cj c with
 |false=>rfl
 |true=>
  simp only[Bool.not_true,cond_false,Bool.true_and]
  unfold S94
  rw[DQ]
  by_cases cp:c.2.2.1.length=0
  ·rw[decide_eq_true cp,decide_eq_false (fun e=>e cp)];rfl
  ·rw[decide_eq_false cp,decide_eq_true cp]
   simp only[Bool.not_true,Bool.not_false,cond_false,Bool.true_and]
   rw[al6 h,DQ]
   by_cases hw:(bw c).length=0
   rotate_left
   ·rw[decide_eq_false hw];rfl
   ·rw[decide_eq_true hw]
    have ho:=XS hc cp hw
    have hi:=vw ho c.2.2.1 0 c true (by omega) (th ho)
    simp only[Bool.not_true,cond_false,Bool.true_and]
    rw[afD (by omega) (by omega),qH (N:=N) (c:=c) (fun i x s ok next hi hs=>Dx ho hN hi hs) ho c.2.2.1 0 c true (by omega) (th ho)]
    refine(vo (out:=Tv c (dL c c.2.2.1 0 c true).1) h (fun _=>XT h ho hi hN) hN hl).trans ?_
    cases (dL c c.2.2.1 0 c true).2<;>rfl
theorem awi {N:Nat} {c:aL} {kf:aL→Bool→Option aa} (h:br c N) (hN:200<N) (hl:c.2.2.2.2.2.1.length+1<N):I28 N c kf=kf (iv c).1 (iv c).2:=by
 have hx:=ar
 have hr:=h.rl
 have hr2:=h.rN
 unfold I28 iv Ge
 rw[my h,F0 h]
 cases hc:cj c with
 |false=>rfl
 |true=>
  simp only[Bool.not_true,cond_false,Bool.true_and]
  unfold I16
  rw[DQ]
  by_cases cp:c.2.2.1.length=0
  ·rw[decide_eq_true cp,decide_eq_false (fun e=>e cp)];rfl
  ·rw[decide_eq_false cp,decide_eq_true cp]
   simp only[Bool.not_true,Bool.not_false,cond_false,Bool.true_and]
   rw[av6 h,DQ]
   by_cases hw:(bw c).length=0
   rotate_left
   ·rw[decide_eq_false hw]
    rfl
   ·rw[decide_eq_true hw]
    have ho:=XS hc cp hw
    have hi:=vw ho c.2.2.1 0 c true (by omega) (th ho)
    simp only[Bool.not_true,cond_false,Bool.true_and]
    rw[my h,afv (by omega) (by omega),qI (N:=N) (c:=c) (no:=kf c false) (fun i x s next hi hs=>Dy h ho hN hi hs) ho c.2.2.1 0 c (by omega) (th ho)]
    cases iz:(dL c c.2.2.1 0 c true).2 with
    |false=>rfl
    |true=>
     have hre:(dL c c.2.2.1 0 c true).1.2.2=c.2.2:=hi.re
     have e2:((dL c c.2.2.1 0 c true).1.1,((dL c c.2.2.1 0 c true).1.2.1,(([]:List a8),(([]:List Int),(([]:List QB),((dL c c.2.2.1 0 c true).1.2.2.2.2.2.1,(IntKind.wrap .i64 ((dL c c.2.2.1 0 c true).1.2.2.2.2.2.2+(List.length c.2.2.1:Int)))))))))=Tv c (dL c c.2.2.1 0 c true).1:=by
      unfold Tv
      rw[hre]
     simp only[cond_true]
     rw[e2]
     exact s9 (out:=Tv c (dL c c.2.2.1 0 c true).1) h (XT h ho hi hN) (by show(dL c c.2.2.1 0 c true).1.2.2.2.2.2.1=_;rw[hre]) hN hl
end Go.Pv.R
namespace Go.Pv.R
set_option linter.unusedVariables false
set_option linter.unusedSimpArgs false
structure Small (c:aL):Prop where
 t10:c.1.length≤10
 tm:∀ x:aB,x∈c.1→x.met.length≤20
 Tu:c.2.1.length≤10
 js:∀ x:aZ,x∈c.2.1→x.2.2.length≤99
 r10:c.2.2.1.length≤10
 s10:c.2.2.2.1.length≤10
 b10:c.2.2.2.2.1.length≤10
 awj:c.2.2.2.2.2.1.length≤200
theorem OF {c:aL} (hc:cj c=true):Small c:=by
 obtain⟨l1,l2⟩:=nj hc
 unfold cj at hc
 simp only[Bool.and_eq_true,Bool.or_eq_true,decide_eq_true_eq] at hc
 obtain⟨ht,hj,hm,_,_,hs,hb,_⟩:=hc
 unfold hZ at hm
 simp only[Bool.and_eq_true,decide_eq_true_eq] at hm
 unfold aG at ht
 simp only[Bool.and_eq_true,decide_eq_true_eq] at ht
 obtain⟨t10,htp,_⟩:=ht
 unfold bZ at hj
 simp only[Bool.and_eq_true,decide_eq_true_eq] at hj
 obtain⟨Tu,hjp⟩:=hj
 rw[fz] at htp hjp
 have r10:c.2.2.1.length≤10:=by
  rcases hs with hs |hs
  ·omega
  ·have hs:dJ c.1 c.2.1 c.2.2.1 c.2.2.2.1=true:=hs.2
   unfold dJ at hs
   simp only[Bool.and_eq_true,decide_eq_true_eq] at hs
   obtain⟨_,_,hs⟩:=hs
   rw[fz] at hs
   have sP:∀ i,i<c.2.2.1.length→cD c.2.1 (dV c i)≥0∧lC (c.2.2.2.1.take i) (dV c i)=false:=fun i hi=>by
    have:=hs i hi
    rw[Nat.zero_add] at this
    unfold rV at this
    simp only[Bool.and_eq_true,decide_eq_true_eq,Bool.not_eq_true'] at this
    exact⟨this.1,this.2.1⟩
   have hn:c.2.2.2.1.Nodup:=List.pairwise_iff_getElem.2 fun i j hi hj uq e=>by
    have h1:=(sP j (by omega)).2
    have h2:lC (c.2.2.2.1.take j) (dV c j)=true:=by
     rw[mv]
     unfold dV
     rw[ai _ _ hj,←e]
     exact List.mem_iff_getElem.2 ⟨i,by rw[List.length_take];omega,by rw[List.getElem_take]⟩
    rw[h1] at h2
    cases h2
   have hle:=oy c.2.2.2.1 (c.2.1.map fun x:aZ=>x.1) hn fun x hx=>by
    obtain⟨i,hi,rfl⟩:=List.mem_iff_getElem.1 hx
    have h1:=(sP i (by omega)).1
    unfold dV at h1
    rw[ai _ _ hi] at h1
    obtain⟨k,hk,e,h2,_⟩:=b7 (p:=fun x:aZ=>x.1==c.2.2.2.1[i]) (l:=c.2.1) (by unfold cD at h1;omega)
    exact List.mem_map.2 ⟨c.2.1[k],List.getElem_mem hk,by simpa using h2⟩
   rw[List.length_map] at hle
   omega
 refine⟨t10,fun x hx=>?_,Tu,fun x hx=>?_,r10,by omega,by omega,hm.1⟩
 ·obtain⟨i,hi,rfl⟩:=List.mem_iff_getElem.1 hx
  have:=htp i hi
  unfold jB at this
  simp only[Bool.and_eq_true,decide_eq_true_eq] at this
  exact this.2.2.2.2.2.1
 ·obtain⟨i,hi,rfl⟩:=List.mem_iff_getElem.1 hx
  have:=hjp i hi
  unfold nD at this
  simp only[Bool.and_eq_true,decide_eq_true_eq] at this
  exact(OE this.2.2.2).2
theorem Small.okC {c:aL} {N:Nat} (h:Small c) (hN:300<N):br c N:=by
 have hx:=ar
 obtain⟨h1,h2,h3,h4,h5,h6,h7,h8⟩:=h
 exact⟨by omega,fun x hx=>by have:=h2 x hx;omega,by omega,by omega,fun x hx=>by have:=h4 x hx;omega,by omega,by omega,by omega,by omega,by omega,by omega,by omega,by omega,by omega,by omega,by omega,fun x hx=>by have:=h2 x hx;omega,by omega,fun x hx=>by have:=h4 x hx;omega⟩
theorem Small.szC {c:aL} (h:Small c):ah bM c≤2000:=by
 have h1:=vn c
 have t10:=h.t10
 have Tu:=h.Tu
 have r10:=h.r10
 have s10:=h.s10
 have b10:=h.b10
 have awj:=h.awj
 have b1:=CP (t:=bo) (l:=c.1) (M:=20) (fun x hx=>by
  have h2:ah bo x=ah (.sl (.int .i64)) x.2.2.2.2.2:=by simp[ah]
  have h3:ah (.sl (.int .i64)) x.2.2.2.2.2=(x.2.2.2.2.2).length:=gh (t:=.int .i64) (by decide) _
  have:x.2.2.2.2.2.length≤20:=h.tm x hx
  omega)
 have b2:=CP (t:=bY) (l:=c.2.1) (M:=99) (fun x hx=>by
  have h2:ah bY x=ah (.sl (.int .i64)) x.2.2:=by simp[ah]
  have h3:ah (.sl (.int .i64)) x.2.2=(x.2.2).length:=gh (t:=.int .i64) (by decide) _
  have:=h.js x hx
  omega)
 have m1:c.1.length*20≤10*20:=Nat.mul_le_mul_right _ (by omega)
 have m2:c.2.1.length*99≤10*99:=Nat.mul_le_mul_right _ (by omega)
 have e3:ah (.sl aP) c.2.2.1=c.2.2.1.length:=gh (t:=aP) (by decide) _
 have e4:ah (.sl (.int .i64)) c.2.2.2.1=c.2.2.2.1.length:=gh (t:=.int .i64) (by decide) _
 have e5:ah (.sl dh) c.2.2.2.2.1=c.2.2.2.2.1.length:=gh (t:=dh) (by decide) _
 have e6:ah (.sl bW) c.2.2.2.2.2.1=c.2.2.2.2.2.1.length:=gh (t:=bW) (by decide) _
 omega
structure OG (c:aL) (N:Nat):Prop where
 ok:br c N
 ok':br c (N - 40)
 tb:c.1.length≤1048576
 tN:c.1.length+1<N
 jb:c.2.1.length≤1048576
 jN:c.2.1.length+1<N
 mN:c.2.2.2.2.2.1.length+1<N
 N2:200<N
theorem Small.evC {c:aL} {N:Nat} (h:Small c) (hN:400<N):OG c N:=
 ⟨h.okC (by omega),h.okC (by omega),by have:=h.t10;omega,by have:=h.t10;omega,by have:=h.Tu;omega,by have:=h.Tu;omega,by have:=h.awj;omega,by omega⟩
def onB (b:Bool) (c:aL) (r:aL×Bool):aL×Bool:=bif b then r else(c,false)
def qJ (c out:aL) (cQ iI:Int):aL×Bool:=(gC c out cQ iI,fc c out cQ iI)
def jV (c:aL) (e:QL):aL×Bool:=
 bif e.1==1 then onB (decide (c.2.2.1.length=0)) c (qJ c (nk c e.2.1 e.2.2.1) 1 e.2.1)
 else bif e.1==2 then qJ c (jU c e.2.1 e.2.2.1) 2 e.2.1
 else bif e.1==3 then dz c
 else bif e.1==4 then onB (xJ c e.2.2.2 e.2.1 e.2.2.1) c (qJ c (tW c e.2.2.2 e.2.1 e.2.2.1) 4 (rX c e.2.2.2 e.2.1 e.2.2.1).1)
 else bif e.1==5 then iv c
 else bif e.1==6 then onB (rZ c e.2.1) c (qJ c (qj c e.2.1) 6 e.2.1)
 else(c,false)
theorem Is {b:Bool} {c:aL} {r:aL×Bool} {k:aL→Bool→Option aa}:(bif b then k r.1 r.2 else k c false)=k (onB b c r).1 (onB b c r).2:=by
 unfold onB
 cases b<;>rfl
theorem awk {N:Nat} {c:aL} {e:QL} {kf:aL→Bool→Option aa} (h:OG c N):S60 N c e kf=kf (jV c e).1 (jV c e).2:=by
 unfold S60 jV
 cases e.1==1
 rotate_left
 ·exact(amk h.ok h.tb h.tN h.N2 h.mN).trans (Is (c:=c) (r:=qJ c (nk c e.2.1 e.2.2.1) 1 e.2.1) (k:=kf))
 cases e.1==2
 rotate_left
 ·exact amm h.ok h.jb h.jN h.N2 h.mN
 cases e.1==3
 rotate_left
 ·exact awd h.ok h.ok' h.N2 h.mN
 cases e.1==4
 rotate_left
 ·exact(ame h.ok h.N2 h.mN).trans (Is (c:=c) (r:=qJ c (tW c e.2.2.2 e.2.1 e.2.2.1) 4 (rX c e.2.2.2 e.2.1 e.2.2.1).1) (k:=kf))
 cases e.1==5
 rotate_left
 ·exact awh h.ok h.N2 h.mN
 cases e.1==6
 rotate_left
 ·exact(amh h.ok h.N2 h.mN).trans (Is (c:=c) (r:=qJ c (qj c e.2.1) 6 e.2.1) (k:=kf))
 ·simp only[cond_false]
  rw[qh h.ok]
theorem awl {N:Nat} {c:aL} {e:QL} {kf:aL→Bool→Option aa} (h:OG c N):I13 N c e kf=kf (jV c e).1 (jV c e).2:=by
 unfold I13 jV
 cases e.1==1
 rotate_left
 ·exact(av9 h.ok h.tb h.tN h.N2 h.mN).trans (Is (c:=c) (r:=qJ c (nk c e.2.1 e.2.2.1) 1 e.2.1) (k:=kf))
 cases e.1==2
 rotate_left
 ·exact av' h.ok h.jb h.jN h.N2 h.mN
 cases e.1==3
 rotate_left
 ·exact awe h.ok h.ok' h.N2 h.mN
 cases e.1==4
 rotate_left
 ·exact(av7 h.ok h.N2 h.mN).trans (Is (c:=c) (r:=qJ c (tW c e.2.2.2 e.2.1 e.2.2.1) 4 (rX c e.2.2.2 e.2.1 e.2.2.1).1) (k:=kf))
 cases e.1==5
 rotate_left
 ·exact awi h.ok h.N2 h.mN
 cases e.1==6
 rotate_left
 ·exact(av8 h.ok h.N2 h.mN).trans (Is (c:=c) (r:=qJ c (qj c e.2.1) 6 e.2.1) (k:=kf))
 ·simp only[cond_false]
  rw[my h.ok]
def Kept (c:aL) (r:aL×Bool):Prop:=(r.1=c∧r.2=false)∨(cj r.1=true∧r.2=true)
theorem jW (c out:aL) (cQ iI:Int):Kept c (qJ c out cQ iI):=by
 unfold qJ Kept gC
 cases hd:fc c out cQ iI with
 |false=>exact .inl ⟨rfl,rfl⟩
 |true=>
  unfold fc at hd
  simp only[Bool.and_eq_true] at hd
  exact .inr ⟨hd.2.2,rfl⟩
theorem so {b:Bool} {c:aL} {r:aL×Bool} (h:Kept c r):Kept c (onB b c r):=by
 unfold onB
 cases b with
 |false=>exact .inl ⟨rfl,rfl⟩
 |true=>exact h
theorem OH (c:aL) (e:QL):Kept c (jV c e):=by
 unfold jV
 cases e.1==1
 rotate_left
 ·exact so (jW _ _ _ _)
 cases e.1==2
 rotate_left
 ·exact jW _ _ _ _
 cases e.1==3
 rotate_left
 ·show Kept c (dz c)
  unfold dz
  cases kU c.1 with
  |none=>exact .inl ⟨rfl,rfl⟩
  |some ps=>
   simp only[]
   cases jk c.1 c.2.1 ps with
   |none=>exact .inl ⟨rfl,rfl⟩
   |some ss=>exact so (jW _ _ _ _)
 cases e.1==4
 rotate_left
 ·exact so (jW _ _ _ _)
 cases e.1==5
 rotate_left
 ·exact so (jW _ _ _ _)
 cases e.1==6
 rotate_left
 ·exact so (jW _ _ _ _)
 ·exact .inl ⟨rfl,rfl⟩
def runM (c:aL) (l:List QL):aL:=l.foldl (fun s e=>(jV s e).1) c
def qn (c s:aL):Prop:=s=c∨cj s=true
theorem qn.EA {c s:aL} (e:QL) (h:qn c s):qn c (jV s e).1:=by
 rcases OH s e with⟨h1,_⟩ |⟨h1,_⟩
 ·rw[h1];exact h
 ·exact .inr h1
theorem XU {c:aL}:∀ (l:List QL) (s:aL),qn c s→qn c (l.foldl (fun s e=>(jV s e).1) s)
 |[],s,h=>h
 |e::l,s,h=>XU l _ (h.EA e)
theorem qn.evR {c s:aL} {N:Nat} (h:qn c s) (hc:OG c N) (hN:400<N):OG s N:=by
 rcases h with rfl |h
 ·exact hc
 ·exact(OF h).evC hN
theorem awm {N:Nat} {c:aL} {l:List QL} {kf:aL→Option aa} (hc:OG c N) (hN:400<N) (hl:l.length≤1048576) (hlN:l.length<N):S63 N c l kf=kf (runM c l):=by
 have hx:=ar
 unfold S63 runM
 rw[qh hc.ok,afF (by omega) hlN]
 exact sh (l:=l) (g:=fun s e=>(jV s e).1) (Inv:=fun _ s=>qn c s) (fun i s next h hs=>⟨by rw[awk (hs.evR hc hN)],hs.EA _⟩) l 0 c rfl (.inl rfl)
theorem awn {N:Nat} {c:aL} {l:List QL} {kf:aL→Option aa} (hc:OG c N) (hN:400<N) (hl:l.length≤1048576) (hlN:l.length<N):I43 N c l kf=kf (runM c l):=by
 have hx:=ar
 unfold I43 runM
 rw[my hc.ok,afE (by omega) hlN]
 exact sh (l:=l) (g:=fun s e=>(jV s e).1) (Inv:=fun _ s=>qn c s) (fun i s next h hs=>⟨by rw[awl (hs.evR hc hN)],hs.EA _⟩) l 0 c rfl (.inl rfl)
theorem abS {c:aL} (l:List QL):ah bM (runM c l)≤max (ah bM c) 2000:=by
 rcases XU l c (.inl rfl) with h |h
 ·unfold runM;rw[h];omega
 ·have:ah bM (runM c l)≤2000:=(OF h).szC
  omega
theorem amD {c:aL} {N:Nat} (hw:wf bM c) (hb:ah bM c≤1048576) (hN:2*ah bM c+300<N):OG c N:=by
 have MF:=vn c
 have h1:=aO (t:=bW) c.2.2.2.2.2.1
 have h2:=aO (t:=bo) c.1
 have h3:=aO (t:=bY) c.2.1
 exact⟨Xw hw hb (by omega),Xw hw hb (by omega),by omega,by omega,by omega,by omega,by omega,by omega⟩
theorem amE {left:Int} {s:Nat} (h:(s:Int)≤left):j0 left s=left - s:=by unfold j0;rw[if_pos h]
theorem tH (c:aL) (l:List QL) (h:wfs [bM,.sl bW] (c,l,())):∃ N,∀ kf,L10 N c l kf=kf true:=by
 refine⟨2*ah bM c+ah (.sl bW) l+4000,fun kf=>?_⟩
 have hw:wf bM c:=h.1
 have qT:wf (.sl bW) l:=h.2.1
 unfold L10
 rw[avO hw (by omega) (by omega) (by omega)]
 refine N' (by omega) fun hb=>?_
 rw[amE hb,avW qT (by omega) (by omega) (by omega)]
 refine N' (by omega) fun hb2=>?_
 have hc:=amD (N:=2*ah bM c+ah (.sl bW) l+4000) hw (by omega) (by omega)
 have hll:=aO (t:=bW) l
 have hsr:=abS (c:=c) l
 generalize hN:2*ah bM c+ah (.sl bW) l+4000=N at*
 have hS:∀ k,S63 N c l k=k (runM c l):=fun k=>awm hc (by omega) (by omega) (by omega)
 have hI:∀ k,I43 N c l k=k (runM c l):=fun k=>awn hc (by omega) (by omega) (by omega)
 generalize runM c l=r at*
 have h1:∀ k,L22 N c k=k c:=fun k=>avT (by omega) (by omega)
 have h1b:∀ k,L64 N l k=k l:=fun k=>avX (by omega) (by omega)
 have mc:=xv bM c 1 (by decide)
 have mr:=xv bM r 1 (by decide)
 have ml:=Xa (t:=bW) (by decide) l (cB bM c 1).2
 have e1:decide ((aJ (aH bW) l (cB bM c 1).2).2<0)=false:=decide_eq_false (by omega)
 have e2:decide ((cB bM r 1).2<0)=false:=decide_eq_false (by omega)
 have h2:∀ k,L24 N c c k=k true:=fun k=>afI (by omega) (by omega)
 have h2b:∀ k,L65 N l l k=k true:=fun k=>avY (by omega) (by omega)
 have h3:∀ k,L24 N r r k=k true:=fun k=>afI (by omega) (by omega)
 have h4:∀ k,L25 N c 1 k=k (cB bM c 1).2 (cB bM c 1).1:=fun k=>afJ (by omega) (by omega) (by omega) (by omega)
 have h4b:∀ k,L66 N l (cB bM c 1).2 k=k (aJ (aH bW) l (cB bM c 1).2).2 (aJ (aH bW) l (cB bM c 1).2).1:=fun k=>avZ (by omega) (by omega) (by omega) (by omega)
 have h5:∀ k,L25 N r 1 k=k (cB bM r 1).2 (cB bM r 1).1:=fun k=>afJ (by omega) (by omega) (by omega) (by omega)
 have h6:∀ k,L26 N (cB bM r 1).1 1 k=k (cB bM r 1).2:=fun k=>avU (by omega) (by omega) (by omega) (by omega)
 have he:((cB bM r 1).1.1,((cB bM r 1).1.2.1,((cB bM r 1).1.2.2.1,((cB bM r 1).1.2.2.2.1,((cB bM r 1).1.2.2.2.2.1,((cB bM r 1).1.2.2.2.2.2.1,r.2.2.2.2.2.2))))))=(cB bM r 1).1:=rfl
 simp only[h1,h1b,hS,hI,h2,h2b,h3,h4,h4b,h5,he,h6,e1,e2,Bool.not_true,cond_false,bne_self_eq_false,beq_self_eq_true]
end Go.Pv.R
namespace Go.Pv.R
set_option linter.unusedVariables false
set_option linter.unusedSimpArgs false
end Go.Pv.R
namespace Go.Pv.R
set_option linter.unusedVariables false
set_option linter.unusedSimpArgs false
end Go.Pv.R
namespace Go.Pv.R
set_option linter.unusedVariables false
set_option linter.unusedSimpArgs false
end Go.Pv.R
namespace Go.Pv.R
set_option linter.unusedVariables false
set_option linter.unusedSimpArgs false
end Go.Pv.R
namespace Go.Pv.R
set_option linter.unusedVariables false
set_option linter.unusedSimpArgs false
end Go.Pv.R
namespace Go.Pv.R
set_option linter.unusedVariables false
set_option linter.unusedSimpArgs false
end Go.Pv.R
namespace Go.Pv.R
set_option linter.unusedVariables false
set_option linter.unusedSimpArgs false
end Go.Pv.R
namespace Go.Pv.R
set_option linter.unusedVariables false
set_option linter.unusedSimpArgs false
end Go.Pv.R
namespace Go.Pv.R
set_option linter.unusedVariables false
set_option linter.unusedSimpArgs false
abbrev Cur:=uP
def XV (c:Cur):Prop:=0≤c.2.1∧c.1.length≤1048576
def aga {α:Type} (F:Cur→(α→Cur→Option aa)→Option aa) (P:α→Prop):Prop:=∀ c:Cur,XV c→∃ v,∃ c':Cur,XV c'∧P v∧∀ kf,F c kf=kf v c'
theorem agb (x:BitVec (IntKind.bits .i64)):0≤IntKind.wrap .i64 (BitVec.toNat (x&&&BitVec.ofInt (IntKind.bits .i64) (255:Int)))∧IntKind.wrap .i64 (BitVec.toNat (x&&&BitVec.ofInt (IntKind.bits .i64) (255:Int)))≤255:=by
 have h:BitVec.toNat (x&&&BitVec.ofInt (IntKind.bits .i64) (255:Int))≤255:=by
  rw[BitVec.toNat_and]
  refine Nat.le_trans Nat.and_le_right ?_
  decide
 rw[wrap64 (by omega) (by omega)]
 omega
theorem JU {N:Nat}:aga (iC N) fun v=>0≤v∧v≤255:=fun c hc=>by
 obtain⟨hc,hl⟩:=hc
 unfold iC share
 rw[decide_eq_true (show(0:Int)≤33 by omega),decide_eq_true (show(0:Int)≤47 by omega)]
 simp only[cond_true]
 by_cases hi:c.2.1<(List.length c.1:Int)
 ·have e7:aM c.2.1 (List.length c.1)=true:=by
   have:=an (i:=c.2.1.toNat) (m:=c.1.length) (by omega)
   rwa [Int.toNat_of_nonneg hc] at this
  rw[decide_eq_true hi,e7]
  simp only[cond_true]
  refine⟨_,(c.1,(IntKind.wrap .i64 (c.2.1+1),_)),⟨?_,hl⟩,agb _,fun kf=>rfl⟩
  show 0≤IntKind.wrap .i64 (c.2.1+1)
  rw[wrap64 (by omega) (by omega)]
  omega
 ·rw[decide_eq_false hi]
  simp only[cond_false]
  exact⟨_,(c.1,(c.2.1,IntKind.wrap .i64 (IntKind.wrap .i64 (c.2.2*(6364136223846793005:Int))+(1442695040888963407:Int)))),⟨hc,hl⟩,agb _,fun kf=>rfl⟩
theorem amF {r n:Int} (hr:0≤r) (hn:0<n):0≤Int.tmod r n∧Int.tmod r n<n:=by
 rw[Int.tmod_eq_emod_of_nonneg hr]
 exact⟨Int.emod_nonneg _ (by omega),Int.emod_lt_of_pos _ hn⟩
theorem Ho {N:Nat} {n:Int} (h0:0<n) (h1:n≤256):aga (fun c kf=>ln N c n kf) fun v=>0≤v∧v<n:=fun c hc=>by
 obtain⟨v,c',h2,h3,h4⟩:=JU (N:=N) c hc
 refine⟨Int.tmod v n,c',h2,amF h3.1 h0,fun kf=>?_⟩
 show ln N c n kf=_
 unfold ln
 rw[decide_eq_false (by omega),decide_eq_true h1]
 simp only[cond_true,cond_false]
 rw[h4,decide_eq_false (by omega)]
 rfl
theorem JV {N:Nat} {n:Int} (h0:0<n) (h1:n≤256):aga (fun c kf=>CI N c n kf) fun _=>True:=fun c hc=>by
 obtain⟨v,c',h2,h3,h4⟩:=Ho (N:=N) h0 h1 c hc
 exact⟨_,c',h2,trivial,fun kf=>h4 _⟩
end Go.Pv.R
namespace Go.Pv.R
set_option linter.unusedVariables false
set_option linter.unusedSimpArgs false
end Go.Pv.R
namespace Go.Pv.R
set_option linter.unusedVariables false
set_option linter.unusedSimpArgs false
end Go.Pv.R
namespace Go.Pv.R
set_option linter.unusedVariables false
set_option linter.unusedSimpArgs false
theorem once {N:Nat} {n:Int} {c:Cur} (h0:0<n) (h1:n≤256) (hc:XV c):∃ v,∃ c':Cur,XV c'∧∀ kf,CI N c n kf=kf v c':=by
 obtain⟨v,c',h2,_,h4⟩:=JV (N:=N) h0 h1 c hc
 exact⟨v,c',h2,h4⟩
end Go.Pv.R
namespace Go.Pv.R
set_option linter.unusedVariables false
set_option linter.unusedSimpArgs false
end Go.Pv.R
namespace Go.Pv.R
set_option linter.unusedVariables false
set_option linter.unusedSimpArgs false
end Go.Pv.R
