/- The law over the plain functions. -/
import Derived.Test.YtcpakhaogbempaaGreatPlHz
namespace Go.Pv.R
set_option linter.unusedVariables false
set_option linter.unusedSimpArgs false
end Go.Pv.R
namespace Go.Pv.R
set_option linter.unusedVariables false
set_option linter.unusedSimpArgs false
theorem lR {N:Nat} {a b c:Int} {kf:Bool→Option aa}:gH N a b c kf=kf (hY a b c):=by
 unfold gH hY
 by_cases h:b≤a<;>simp[h]
theorem nF {N:Nat} {a b c:Int} {kf:Bool→Option aa}:eP N a b c kf=kf (hY a b c):=by
 unfold eP hY
 by_cases h:b≤a<;>simp[h]
def Fs (a:Int) (i:Nat) (x:QL) (s:Int):Int:=bif x.2.1==a then IntKind.wrap .i64 (s+1) else s
end Go.Pv.R
namespace Go.Pv.R
set_option linter.unusedVariables false
set_option linter.unusedSimpArgs false
theorem Ib (a:Int):(a.tmod 2147483647=a%2147483647∧0≤a)∨(a.tmod 2147483647=-((-a)%2147483647)∧a<0):=by
 rcases Int.lt_or_le a 0 with h |h
 ·right
  refine⟨?_,h⟩
  have h1:(-a).tmod 2147483647=(-a)%2147483647:=Int.tmod_eq_emod_of_nonneg (by omega)
  rw[Int.neg_tmod] at h1
  omega
 ·exact .inl ⟨Int.tmod_eq_emod_of_nonneg h,h⟩
theorem ajk {N:Nat} {a:Int} {kf:Int→Option aa}:ac1 N a 2147483647 kf=kf (a%2147483647):=by
 unfold ac1
 rw[lR,show hY 2147483647 1 1000000000000=true from by decide]
 have e:(decide ((2147483647:Int)=0))=false:=by decide
 simp only[Bool.not_true,cond_false,e,Bool.not_false,cond_true]
 congr 1
 rcases Ib a with⟨h,h'⟩ |⟨h,h'⟩<;>rw[h,wrap64 (by omega) (by omega),Int.tmod_eq_emod_of_nonneg (by omega)]<;>omega
theorem ajl {N:Nat} {a:Int} {kf:Int→Option aa}:aiA N a 2147483647 kf=kf (a%2147483647):=by
 unfold aiA
 rw[nF,show hY 2147483647 1 1000000000000=true from by decide]
 have e:(decide ((2147483647:Int)=0))=false:=by decide
 simp only[Bool.not_true,cond_false,e,Bool.not_false,cond_true]
 rcases Ib a with⟨h,h'⟩ |⟨h,h'⟩<;>rw[h]
 ·rw[decide_eq_false (by omega),cond_false]
 ·by_cases hz: -((-a)%2147483647)<0
  ·rw[decide_eq_true hz,cond_true,wrap64 (by omega) (by omega)]
   congr 1
   omega
  ·rw[decide_eq_false hz,cond_false]
   congr 1
   omega
def foldM (i:Nat) (x s:Int):Int:=Int.tmod (IntKind.wrap .i64 ((IntKind.wrap .i64 ((IntKind.wrap .i64 (s*(1000003:Int)))+x%2147483647))+(13:Int))) (2147483647:Int)
def adI (l:List Int):Int:=foldI foldM l 0 11
theorem ajm {N:Nat} {l:List Int} {kf:Int→Option aa} (hl:l.length≤maxLen) (hN:l.length<N):aiY N l kf=kf (adI l):=by
 unfold aiY
 rw[Zz hl hN,pN foldM (fun i x s next h e=>by rw[ajk];rfl)]
 rfl
theorem ajn {N:Nat} {l:List Int} {kf:Int→Option aa} (hl:l.length≤maxLen) (hN:l.length<N):aiC N l kf=kf (adI l):=by
 unfold aiC
 rw[Zf hl hN,pN foldM (fun i x s next h e=>by unfold aiB;rw[ajl];rfl)]
 rfl
def xO (s:Int) (x:QL):Int:=adI [s,x.1,x.2.1,x.2.2.1]
theorem VG {N:Nat} {s:Int} {x:QL} {kf:Int→Option aa} (hN:4<N):Si N s x kf=kf (xO s x):=by
 unfold Si
 rw[ajm (by rw[au];simp) (by simpa using hN)]
 rfl
theorem VH {N:Nat} {s:Int} {x:QL} {kf:Int→Option aa} (hN:4<N):RL N s x kf=kf (xO s x):=by
 unfold RL
 rw[ajn (by rw[au];simp) (by simpa using hN)]
 rfl
def NU:List QL→Nat→Int→Bool
 |[],_,_=>true
 |x::r,i,s=>(x.1==((i+1:Nat):Int))&&hY x.2.1 1 9&&hY x.2.2.1 0 99&&(x.2.2.2==xO s x)&&NU r (i+1) x.2.2.2
def bW (l:List QL):Bool:=decide (l.length≤200)&&NU l 0 0
theorem Dt {N:Nat} {l:List QL} {kf:Bool→Option aa} (hl:l.length≤maxLen) (hN:l.length<N) (h4:4<N):Sj N l kf=kf (bW l):=by
 unfold Sj
 rw[ZA hl hN]
 by_cases hc:l.length≤200
 ·have h1:(decide ((l.length:Int)≤200))=true:=decide_eq_true (by omega)
  have key:∀ (r:List QL) (i:Nat) (s:Int),l.drop i=r→bI (fun(i:Nat) (x:QL) (ai:Int) (next:Int→Option aa)=>
    bif (decide ((List.length l:Int)≤(200:Int))) then
     Si N ai x (fun(uD:Int)=>
      bif (x.1 != (IntKind.wrap .i64 ((i:Int)+(1:Int)))) then kf false
      else
       gH N x.2.1 (1:Int) (9:Int) (fun(NN:Bool)=>
        bif (!NN) then kf false
        else
         gH N x.2.2.1 (0:Int) (99:Int) (fun(xH:Bool)=>
          bif (!xH) then kf false
          else
           bif (x.2.2.2 != uD) then kf false
           else next uD)))
    else kf (decide ((List.length l:Int)≤(200:Int)))) (fun(ai:Int)=>kf (decide ((List.length l:Int)≤(200:Int)))) r i s=kf (NU r i s):=by
   intro r
   induction r with
   |nil=>intro i s _;simp only[bI,NU,h1]
   |cons x r ih=>
    intro i s hd
    have cf:i<l.length:=by have:=congrArg List.length hd;simp at this;omega
    rw[List.drop_eq_getElem_cons cf] at hd
    injection hd with e1 e2
    simp only[bI,NU]
    simp only[ih (i+1) _ e2]
    simp only[h1,cond_true,VG h4,lR,fU cf hl]
    cases hx:(x.1==((i+1:Nat):Int)) with
    |false=>simp only[bne,hx,Bool.not_false,cond_true,Bool.false_and]
    |true=>
     simp only[bne,hx,Bool.not_true,cond_false,Bool.true_and]
     cases hY x.2.1 1 9<;>simp
     cases hY x.2.2.1 0 99<;>simp
     by_cases hs:x.2.2.2=xO s x
     ·simp[hs]
     ·have:(x.2.2.2==xO s x)=false:=by simpa using hs
      simp[this]
  refine Eq.trans (key l 0 0 rfl) ?_
  unfold bW
  simp[hc]
 ·have h1:(decide ((l.length:Int)≤200))=false:=decide_eq_false (by omega)
  cases l with
  |nil=>simp at hc
  |cons x r=>
   simp only[bI,h1,cond_false]
   unfold bW
   rw[decide_eq_false hc]
   rfl
theorem vH {N:Nat} {l:List QL} {kf:Bool→Option aa} (hl:l.length≤maxLen) (hN:l.length<N) (h4:4<N):I75 N l kf=kf (bW l):=by
 unfold I75
 by_cases hc:l.length≤200
 ·have h1:(decide ((l.length:Int)>200))=false:=decide_eq_false (by omega)
  rw[h1,cond_false,adk hl hN]
  have key:∀ (r:List QL) (i:Nat) (s:Int),l.drop i=r→bI (fun(i:Nat) (x:QL) (bA:Int) (next:Int→Option aa)=>
    bif (x.1 != (IntKind.wrap .i64 ((i:Int)+(1:Int)))) then kf false
    else
     eP N x.2.1 (1:Int) (9:Int) (fun(xB:Bool)=>
      bif (!xB) then kf false
      else
       eP N x.2.2.1 (0:Int) (99:Int) (fun(Nz:Bool)=>
        bif (!Nz) then kf false
        else
         RL N bA x (fun(NA:Int)=>
          bif (x.2.2.2 != NA) then kf false
          else next x.2.2.2)))) (fun(bA:Int)=>kf true) r i s=kf (NU r i s):=by
   intro r
   induction r with
   |nil=>intro i s _;simp only[bI,NU]
   |cons x r ih=>
    intro i s hd
    have cf:i<l.length:=by have:=congrArg List.length hd;simp at this;omega
    rw[List.drop_eq_getElem_cons cf] at hd
    injection hd with e1 e2
    simp only[bI,NU]
    simp only[ih (i+1) _ e2]
    simp only[VH h4,nF,fU cf hl]
    cases hx:(x.1==((i+1:Nat):Int)) with
    |false=>simp only[bne,hx,Bool.not_false,cond_true,Bool.false_and]
    |true=>
     simp only[bne,hx,Bool.not_true,cond_false,Bool.true_and]
     cases hY x.2.1 1 9<;>simp
     cases hY x.2.2.1 0 99<;>simp
     by_cases hs:x.2.2.2=xO s x
     ·simp[hs]
     ·have:(x.2.2.2==xO s x)=false:=by simpa using hs
      simp[this]
  refine Eq.trans (key l 0 0 rfl) ?_
  unfold bW
  simp[hc]
 ·have h1:(decide ((l.length:Int)>200))=true:=decide_eq_true (by omega)
  rw[h1,cond_true]
  unfold bW
  rw[decide_eq_false hc]
  rfl
def VI (i:Nat) (x:QL) (s:Bool):Bool:=bif x.2.1==3 then true else bif x.2.1==5 then false else s
def JC (a:Int) (i:Nat) (x:QL) (s:Int):Int:=bif x.2.1==4 then bif x.2.2.1==a then IntKind.wrap .i64 (s+1) else s else s
end Go.Pv.R
namespace Go.Pv
set_option linter.unusedVariables false
set_option linter.unusedSimpArgs false
theorem Ft {α:Type} {p:α→Bool}:∀ {l:List α} {i k:Nat},hJ p l i=some k→∃ j,∃ h:j<l.length,k=i+j∧p l[j]=true∧∀ j' (h':j'<j),p (l[j']'(by omega))=false
 |[],i,k,h=>by cases h
 |x::r,i,k,h=>by
  simp only[hJ] at h
  cases hp:p x with
  |true=>
   rw[hp] at h
   injection h with h
   exact⟨0,by simp,by omega,hp,fun j' h'=>by omega⟩
  |false=>
   rw[hp] at h
   obtain⟨j,hj,e,h1,h2⟩:=Ft (l:=r) h
   refine⟨j+1,by simpa using hj,by omega,h1,fun j' h'=>?_⟩
   cases j' with
   |zero=>exact hp
   |succ j'=>exact h2 j' (by omega)
theorem Fu {α:Type} {p:α→Bool}:∀ {l:List α} {i:Nat},hJ p l i=none→∀ j (h:j<l.length),p l[j]=false
 |[],i,h,j,hj=>by simp at hj
 |x::r,i,h,j,hj=>by
  simp only[hJ] at h
  cases hp:p x with
  |true=>rw[hp] at h;cases h
  |false=>
   rw[hp] at h
   cases j with
   |zero=>exact hp
   |succ j=>exact Fu (l:=r) h j (by simpa using hj)
theorem jF {α:Type} {body:Nat→α→Option aa→Option aa} {cz:Option aa} {kf:Nat→Option aa} {p:α→Bool} (hb:∀ (i:Nat) (x:α) (next:Option aa),body i x next=bif p x then kf i else next):∀ (l:List α) (i:Nat),mf body cz l i=match hJ p l i with
  |some k=>kf k
  |none=>cz
 |[],_=>rfl
 |x::r,i=>by
  simp only[mf,hJ]
  rw[hb]
  cases p x
  ·exact jF hb r (i+1)
  ·rfl
def fO {α:Type} (p:α→Bool) (l:List α):Int:=match hJ p l 0 with
 |some k=>(k:Int)
 |none=>-1
theorem bB {α:Type} {p:α→Bool} {l:List α} (h: ¬fO p l<0):∃ k:Nat,∃ hk:k<l.length,fO p l=(k:Int)∧p l[k]=true∧∀ j (hj:j<k),p (l[j]'(by omega))=false:=by
 unfold fO at*
 split at h
 ·rename_i k hk
  obtain⟨j,hj,e,h1,h2⟩:=Ft hk
  obtain rfl:k=j:=by omega
  exact⟨k,hj,rfl,h1,h2⟩
 ·omega
theorem tI {α:Type} {p:α→Bool} {l:List α} (h:fO p l<0):fO p l=-1∧∀ j (hj:j<l.length),p l[j]=false:=by
 unfold fO at*
 split at h
 ·omega
 ·rename_i hn
  exact⟨rfl,Fu hn⟩
theorem Fv {α:Type} {p q:Nat→α→Bool}:∀ {l:List α} {i:Nat},allI (fun i x=>p i x&&q i x) l i=(allI p l i&&allI q l i)
 |[],_=>rfl
 |x::r,i=>by
  simp only[allI,Fv (l:=r)]
  cases p i x<;>cases q i x<;>cases allI p r (i+1)<;>simp
theorem Ss {α:Type} {p q:Nat→α→Bool} {l:List α} (h:∀ (j:Nat) (hj:j<l.length),p j l[j]=q j l[j]):allI p l 0=allI q l 0:=by
 apply Bool.eq_iff_iff.2
 rw[dN,dN]
 constructor
 ·intro h1 j hj;have:=h1 j hj;rw[Nat.zero_add] at*;rw[←h j hj];exact this
 ·intro h1 j hj;have:=h1 j hj;rw[Nat.zero_add] at*;rw[h j hj];exact this
theorem oM {i m:Nat} (h0:0<i) (h:i<m) (hm:m≤maxLen):IntKind.wrap .i64 ((i:Int) - 1)=((i - 1:Nat):Int):=by
 have:=au
 rw[wrap64]<;>omega
end Go.Pv
namespace Go.Pv.R
set_option linter.unusedVariables false
set_option linter.unusedSimpArgs false
abbrev ar:=QT
def aw (l:List ar) (id:Int):Int:=fO (fun x:ar=>x.1==id) l
theorem jG {N:Nat} {l:List ar} {id:Int} {kf:Int→Option aa} (hl:l.length≤maxLen) (hN:l.length<N):vA N l id kf=kf (aw l id):=by
 unfold vA
 rw[Zr hl hN,jF (p:=fun x:ar=>x.1==id) (kf:=fun i=>kf (i:Int)) (fun i x next=>rfl)]
 unfold aw fO
 cases hJ (fun x:ar=>x.1==id) l 0<;>rfl
theorem mL {N:Nat} {l:List ar} {id:Int} {kf:Int→Option aa} (hl:l.length≤maxLen) (hN:l.length<N):Ny N l id kf=kf (aw l id):=by
 unfold Ny aqQ
 rw[Ze hl hN]
 simp only[aiy]
 rw[jF (p:=fun x:ar=>x.1==id) (kf:=fun i=>kf (i:Int)) (fun i x next=>rfl)]
 unfold aw fO
 cases hJ (fun x:ar=>x.1==id) l 0<;>rfl
def mM (l:List Int) (n:Int):Int:=foldI (fun i x s=>bif x==n then IntKind.wrap .i64 (s+1) else s) l 0 0
theorem VJ {N:Nat} {l:List Int} {n:Int} {kf:Int→Option aa} (hl:l.length≤maxLen) (hN:l.length<N):Sa N l n kf=kf (mM l n):=by
 unfold Sa
 rw[Zs hl hN,pN (fun i x s=>bif x==n then IntKind.wrap .i64 (s+1) else s) (fun i x s next h e=>by cases x==n<;>rfl)]
 rfl
theorem Su {N:Nat} {l:List Int} {n:Int} {kf:Int→Option aa} (hl:l.length≤maxLen) (hN:l.length<N):I78 N l n kf=kf (mM l n):=by
 unfold I78
 rw[adl hl hN,pN (fun i x s=>bif x==n then IntKind.wrap .i64 (s+1) else s) (fun i x s next h e=>by cases x==n<;>rfl)]
 rfl
abbrev ar.met (x:ar):List Int:=x.2.2.2.2.2
def iU (l:List ar) (i:Nat) (x:ar):Bool:=hY x.1 1 99&&(hY x.2.1 1 99&&(hY x.2.2.1 0 x.met.length&&(hY x.2.2.2.2.1 0 x.met.length&&(hY x.2.2.2.1 0 100000&&(decide (x.met.length≤20)&&(decide (i=0)||decide ((l.getD (i - 1) aj).1<x.1)))))))
def Hf (l:List ar) (x:ar) (id:Int):Bool:=!decide (aw l id<0)&&(!(id==x.1)&&(mM x.met id==mM (l.getD (aw l id).toNat aj).met x.1))
def ay (l:List ar):Bool:=decide (l.length≤10)&&(allI (iU l) l 0&&allI (fun _ x=>x.met.all (Hf l x)) l 0)
def JD (l:List ar) (i:Nat) (x:ar) (id:Int):Bool:=!decide (aw l id<0)&&(!(aw l id==(i:Int))&&(mM (l.getD (aw l id).toNat aj).met x.1==mM x.met (l.getD (aw l id).toNat aj).1))
theorem xP {α:Type} {p:α→Bool}:∀ {l:List α} {i:Nat},allI (fun _ x=>p x) l i=l.all p
 |[],_=>rfl
 |x::r,i=>by simp only[allI,List.all_cons,xP (l:=r)]
theorem qB {l:List ar} (h:allI (iU l) l 0=true):∀ (j i:Nat) (hi:i<l.length),j<i→(l.getD j aj).1<l[i].1:=by
 rw[dN] at h
 have step:∀ (i:Nat) (hi:i<l.length),0<i→(l.getD (i - 1) aj).1<l[i].1:=fun i hi h0=>by
  have:=h i hi
  rw[Nat.zero_add] at this
  simp only[iU,Bool.and_eq_true,Bool.or_eq_true,decide_eq_true_eq] at this
  omega
 intro j i hi kS
 induction i with
 |zero=>omega
 |succ i ih=>
  have h1:=step (i+1) hi (by omega)
  rw[Nat.add_sub_cancel,ah _ _ (show i<l.length by omega)] at h1
  rcases Nat.lt_or_eq_of_le (Nat.le_of_lt_succ kS) with h2 |rfl
  ·have:=ih (by omega) h2;omega
  ·rw[ah _ _ (by omega)];exact h1
theorem Fw {l:List ar} (h:allI (iU l) l 0=true) {i:Nat} (hi:i<l.length) {id:Int}:aw l id=(i:Int)↔id=l[i].1:=by
 constructor
 ·intro e
  obtain⟨k,hk,e1,h1,_⟩:=bB (p:=fun x:ar=>x.1==id) (l:=l) (by unfold aw at e;omega)
  unfold aw at e
  obtain rfl:k=i:=by omega
  exact(beq_iff_eq.1 h1).symm
 ·rintro rfl
  unfold aw
  by_cases hn:fO (fun x:ar=>x.1==l[i].1) l<0
  ·have:=(tI hn).2 i hi
   simp at this
  ·obtain⟨k,hk,e1,h1,h2⟩:=bB hn
   rw[e1]
   have h1:l[k].1=l[i].1:=by simpa using h1
   rcases Nat.lt_trichotomy k i with cf |rfl |cf
   ·have:=qB h k i hi cf
    rw[ah _ _ hk] at this
    omega
   ·rfl
   ·have:=h2 i cf
    simp at this
theorem ajo {l:List ar} (h:allI (iU l) l 0=true) {i:Nat} (hi:i<l.length) (id:Int):JD l i l[i] id=Hf l l[i] id:=by
 unfold JD Hf
 by_cases hn:aw l id<0
 ·simp[hn]
 ·rw[decide_eq_false hn,Bool.not_false,Bool.true_and,Bool.true_and]
  have e1:(aw l id==(i:Int))=(id==l[i].1):=by
   apply Bool.eq_iff_iff.2
   rw[beq_iff_eq,beq_iff_eq]
   exact Fw h hi
  rw[e1]
  obtain⟨k,hk,e2,h2,_⟩:=bB (p:=fun x:ar=>x.1==id) hn
  have e3:aw l id=(k:Int):=e2
  rw[e3,Int.toNat_natCast,ah _ _ hk,show l[k].1=id by simpa using h2]
  congr 1
  apply Bool.eq_iff_iff.2
  rw[beq_iff_eq,beq_iff_eq]
  exact⟨fun h=>h.symm,fun h=>h.symm⟩
theorem NV (l:List ar):(allI (fun i x=>iU l i x&&x.met.all (JD l i x)) l 0&&decide (l.length≤10))=ay l:=by
 unfold ay
 rw[Fv]
 cases h:allI (iU l) l 0 with
 |false=>simp
 |true=>
  have:allI (fun i x=>x.met.all (JD l i x)) l 0=allI (fun _ x=>x.met.all (Hf l x)) l 0:=Ss fun j hj=>by
   congr 1
   funext id
   exact ajo h hj id
  rw[this]
  cases decide (l.length≤10)<;>simp
theorem kJ {N:Nat} {l:List ar} {kf:Bool→Option aa} (hl:l.length≤maxLen) (hm:∀ x∈l,x.met.length≤maxLen∧x.met.length<N) (hN:l.length<N):uh N l kf=kf (ay l):=by
 unfold uh
 rw[Zu hl hN,gf (l:=l) (p:=fun i x=>iU l i x&&x.met.all (JD l i x)) (kf:=kf false) (fun i x next h e=>?_) l 0 rfl,←NV]
 ·cases allI (fun i x=>iU l i x&&x.met.all (JD l i x)) l 0
  ·rfl
  ·simp only[cond_true,Bool.true_and]
   congr 1
   apply Bool.eq_iff_iff.2
   simp
   omega
 ·have hx:x∈l:=by rw[←e];exact List.getElem_mem h
  obtain⟨m1,m2⟩:=hm x hx
  have inner:jC N l (i:Int) x N next kf (0:Int)=bif x.met.all (JD l i x) then next else kf false:=by
   rw[Zt m1 m2,gf (l:=x.met) (p:=fun _ id=>JD l i x id) (kf:=kf false) (fun j id next' hj ej=>?_) x.met 0 rfl,xP]
   rw[jG hl hN]
   unfold JD
   by_cases hn:aw l id<0
   ·simp[hn]
   ·rw[decide_eq_false hn,cond_false,Bool.not_false,Bool.true_and]
    cases hf:aw l id==(i:Int)
    ·obtain⟨k,hk,e2,h2,_⟩:=bB (p:=fun x:ar=>x.1==id) hn
     have e3:aw l id=(k:Int):=e2
     obtain⟨q1,q2⟩:=hm l[k] (List.getElem_mem hk)
     rw[cond_false,e3,ak hk,cond_true,cond_true,Int.toNat_natCast,ah _ _ hk,VJ q1 q2,VJ m1 m2]
     cases hc:(mM l[k].met x.1==mM x.met l[k].1)<;>simp[bne,hc]
    ·simp
  have ord:∀ A B:Option aa,(bif (decide ((i:Int)>(0:Int))) then
    bif (aQ (IntKind.wrap .i64 ((i:Int) - (1:Int))) (List.length l)) then
     bif (decide ((List.getD l (Int.toNat (IntKind.wrap .i64 ((i:Int) - (1:Int)))) aj).1≥x.1)) then A else B
    else none
   else B)=bif (decide (i=0)||decide ((l.getD (i - 1) aj).1<x.1)) then B else A:=fun A B=>by
   by_cases h0:i=0
   ·subst h0;simp
   ·rw[decide_eq_true (show(i:Int)>0 by omega),cond_true,oM (by omega) h hl,ak (by omega),cond_true,Int.toNat_natCast,decide_eq_false h0,Bool.false_or]
    by_cases hc:(l.getD (i - 1) aj).1<x.1
    ·rw[decide_eq_false (by omega),decide_eq_true hc];rfl
    ·rw[decide_eq_true (by omega),decide_eq_false hc];rfl
  simp only[lR,inner,ord]
  unfold iU
  cases hY x.1 1 99<;>simp
  cases hY x.2.1 1 99<;>simp
  cases hY x.2.2.1 0 x.met.length<;>simp
  cases hY x.2.2.2.2.1 0 x.met.length<;>simp
  cases hY x.2.2.2.1 0 100000<;>simp
  by_cases Co:x.met.length≤20
  ·rw[decide_eq_false (show ¬(20:Int)<(x.met.length:Int) by omega),decide_eq_true Co]
   simp
   cases (decide (i=0)||decide ((l[i - 1]?.getD aj).1<x.1))<;>simp
  ·rw[decide_eq_true (show(20:Int)<(x.met.length:Int) by omega),decide_eq_false Co]
   simp
theorem lS {N:Nat} {l:List ar} {kf:Bool→Option aa} (hl:l.length≤maxLen) (hm:∀ x∈l,x.met.length≤maxLen∧x.met.length<N) (hN:l.length<N):Ap N l kf=kf (ay l):=by
 unfold Ap
 by_cases h10:l.length≤10
 rotate_left
 ·rw[decide_eq_true (by omega),cond_true]
  unfold ay
  rw[decide_eq_false h10]
  rfl
 rw[decide_eq_false (by omega),cond_false]
 rw[Zg hl hN,gf (l:=l) (p:=fun i x=>iU l i x&&x.met.all (Hf l x)) (kf:=kf false) (fun i x next h e=>?_) l 0 rfl]
 ·unfold ay
  rw[decide_eq_true h10,Bool.true_and,Fv]
  cases (allI (iU l) l 0&&allI (fun _ x=>x.met.all (Hf l x)) l 0)<;>rfl
 ·have hx:x∈l:=by rw[←e];exact List.getElem_mem h
  obtain⟨m1,m2⟩:=hm x hx
  have inner:hZ N l x l (List.length l:Int) (i:Int) x.2.2.2.2.2 (List.length x.2.2.2.2.2:Int) N next kf (0:Int)=bif x.met.all (Hf l x) then next else kf false:=by
   rw[Sq m1 m2,gf (l:=x.met) (p:=fun _ id=>Hf l x id) (kf:=kf false) (fun j id next' hj ej=>?_) x.met 0 rfl,xP]
   rw[mL hl hN]
   unfold Hf
   by_cases hn:aw l id<0
   ·simp[hn]
   ·rw[decide_eq_false hn,cond_false,Bool.not_false,Bool.true_and]
    cases hf:id==x.1
    ·obtain⟨k,hk,e2,h2,_⟩:=bB (p:=fun x:ar=>x.1==id) hn
     have e3:aw l id=(k:Int):=e2
     obtain⟨q1,q2⟩:=hm l[k] (List.getElem_mem hk)
     rw[cond_false,e3,ak hk,cond_true,Int.toNat_natCast,ah _ _ hk,Su m1 m2,Su q1 q2]
     cases hc:(mM x.met id==mM l[k].met x.1)<;>simp[bne,hc]
    ·simp
  have ord:∀ A B:Option aa,(bif (decide ((i:Int)>(0:Int))) then
    bif (aQ (IntKind.wrap .i64 ((i:Int) - (1:Int))) (List.length l)) then
     bif (decide (x.1≤(List.getD l (Int.toNat (IntKind.wrap .i64 ((i:Int) - (1:Int)))) aj).1)) then A else B
    else none
   else B)=bif (decide (i=0)||decide ((l.getD (i - 1) aj).1<x.1)) then B else A:=fun A B=>by
   by_cases h0:i=0
   ·subst h0;simp
   ·rw[decide_eq_true (show(i:Int)>0 by omega),cond_true,oM (by omega) h hl,ak (by omega),cond_true,Int.toNat_natCast,decide_eq_false h0,Bool.false_or]
    by_cases hc:(l.getD (i - 1) aj).1<x.1
    ·rw[decide_eq_false (by omega),decide_eq_true hc];rfl
    ·rw[decide_eq_true (by omega),decide_eq_false hc];rfl
  simp only[nF,inner,ord]
  unfold iU
  cases hY x.1 1 99<;>simp
  cases (decide (i=0)||decide ((l[i - 1]?.getD aj).1<x.1))<;>simp
  cases hY x.2.1 1 99<;>simp
  by_cases Co:x.met.length≤20
  ·rw[decide_eq_false (show ¬(20:Int)<(x.met.length:Int) by omega),decide_eq_true Co]
   simp
   cases hY x.2.2.1 0 x.met.length<;>simp
   cases hY x.2.2.2.2.1 0 x.met.length<;>simp
   cases hY x.2.2.2.1 0 100000<;>simp
  ·rw[decide_eq_true (show(20:Int)<(x.met.length:Int) by omega),decide_eq_false Co]
   simp
end Go.Pv.R
namespace Go.Pv
set_option linter.unusedVariables false
set_option linter.unusedSimpArgs false
def gh {α β:Type} (c:Nat→α→Bool) (f:Nat→α→β):List α→Nat→List β
 |[],_=>[]
 |x::r,i=>bif c i x then f i x::gh c f r (i+1) else gh c f r (i+1)
theorem Cp {α β:Type} {c:Nat→α→Bool} {f:Nat→α→β}:∀ (l:List α) (i:Nat),(gh c f l i).length≤l.length
 |[],_=>Nat.le_refl _
 |x::r,i=>by
  simp only[gh]
  have:=Cp (c:=c) (f:=f) r (i+1)
  cases c i x<;>simp<;>omega
theorem k9 {α β:Type} {body:Nat→α→List β→(List β→Option aa)→Option aa} {cz:List β→Option aa} {c:Nat→α→Bool} {f:Nat→α→β} {l:List α}
  (hb:∀ (i:Nat) (x:α) (s:List β) (next:List β→Option aa) (h:i<l.length),l[i]=x→s.length≤i→body i x s next=bif c i x then next (s++[f i x]) else next s):
  ∀ (r:List α) (i:Nat) (s:List β),l.drop i=r→s.length≤i→bI body cz r i s=cz (s++gh c f r i)
 |[],i,s,_,_=>by simp[bI,gh]
 |x::r,i,s,hd,hs=>by
  have cf:i<l.length:=by have:=congrArg List.length hd;simp at this;omega
  rw[List.drop_eq_getElem_cons cf] at hd
  injection hd with h1 h2
  simp only[bI,gh]
  rw[hb i x s _ cf h1 hs]
  cases c i x
  ·rw[cond_false,cond_false]
   exact k9 hb r (i+1) s h2 (by omega)
  ·rw[cond_true,cond_true,k9 hb r (i+1) (s++[f i x]) h2 (by simp;omega)]
   simp
theorem Ic {α:Type} (p:α→Bool) (l:List α):decide (fO p l≥0)=l.any p:=by
 by_cases h:fO p l<0
 ·rw[decide_eq_false (by omega)]
  symm
  rw[List.any_eq_false]
  intro x hx
  obtain⟨j,hj,rfl⟩:=List.mem_iff_getElem.1 hx
  rw[(tI h).2 j hj]
  simp
 ·rw[decide_eq_true (by omega)]
  symm
  rw[List.any_eq_true]
  obtain⟨k,hk,_,h1,_⟩:=bB h
  exact⟨l[k],List.getElem_mem hk,h1⟩
theorem AF (n:Int):∀ (l:List Int) (i:Nat) (s:Nat),s+l.length≤maxLen→foldI (fun _ x s=>bif x==n then IntKind.wrap .i64 (s+1) else s) l i (s:Int)=((s+l.count n:Nat):Int)
 |[],_,_,_=>by simp[foldI]
 |x::r,i,s,h=>by
  simp only[foldI,List.count_cons]
  simp only[List.length_cons] at h
  have:=au
  cases hx:x==n with
  |false=>simp only[cond_false];rw[AF n r (i+1) s (by omega)];simp
  |true=>
   simp only[cond_true,if_true]
   rw[wrap64 (by omega) (by omega),show((s:Int)+1)=((s+1:Nat):Int) by omega,AF n r (i+1) (s+1) (by omega)]
   congr 1
   omega
theorem vI {b:List Int} (hb:b.Nodup):∀ (a:List Int),(∀ x∈a,x∈b)→(b.map fun x=>a.count x).sum=a.length
 |[],_=>by
  have:∀ l:List Int,(l.map fun x=>([]:List Int).count x).sum=0:=by
   intro l
   induction l with
   |nil=>rfl
   |cons x r ih=>rw[List.map_cons,List.sum_cons,ih];simp
  rw[this];rfl
 |y::a,h=>by
  have ih:=vI hb a (fun x hx=>h x (by simp[hx]))
  have hy:=h y (by simp)
  have key:∀ l:List Int,(l.map fun x=>(y::a).count x).sum=(l.map fun x=>a.count x).sum+l.count y:=by
   intro l
   induction l with
   |nil=>rfl
   |cons x r ihl=>
    rw[List.map_cons,List.sum_cons,ihl,List.map_cons,List.sum_cons,List.count_cons,List.count_cons]
    by_cases zL:y=x
    ·subst zL;simp;omega
    ·have h1:(y==x)=false:=by simpa using zL
     have h2:(x==y)=false:=by simpa using fun e=>zL e.symm
     rw[h1,h2];simp;omega
  rw[key,ih,List.length_cons]
  have:b.count y=1:=by
   have h1:=List.count_pos_iff.2 hy
   have h2:=List.nodup_iff_count.1 hb y
   omega
  omega
theorem ajp {b:List Int} {f:Int→Nat} (h1:∀ x∈b,f x≤1) (h2:(b.map f).sum=b.length):∀ x∈b,f x=1:=by
 have le:∀ l:List Int,(∀ x∈l,f x≤1)→(l.map f).sum≤l.length:=by
  intro l
  induction l with
  |nil=>intro _;simp
  |cons x r ih=>intro h;have:=ih (fun y hy=>h y (by simp[hy]));have:=h x (by simp);simp;omega
 induction b with
 |nil=>intro x hx;cases hx
 |cons y r ih=>
  have hr:=le r (fun x hx=>h1 x (by simp[hx]))
  have hy:=h1 y (by simp)
  simp only[List.map_cons,List.sum_cons,List.length_cons] at h2
  intro x hx
  rcases List.mem_cons.1 hx with rfl |hx
  ·omega
  ·exact ih (fun x hx=>h1 x (by simp[hx])) (by omega) x hx
theorem NW {a b:List Int} (hb:b.Nodup) (h:∀ x∈a,x∈b):(∀ x∈b,a.count x=1)↔a.Nodup∧a.length=b.length:=by
 have hs:=vI hb a h
 constructor
 ·intro h1
  refine⟨List.nodup_iff_count.2 fun x=>?_,?_⟩
  ·by_cases hx:x∈a
   ·rw[h1 x (h x hx)];exact Nat.le_refl _
   ·rw[List.count_eq_zero_of_not_mem hx];omega
  ·have key:∀ l:List Int,(∀ x∈l,a.count x=1)→(l.map fun x=>a.count x).sum=l.length:=by
    intro l
    induction l with
    |nil=>intro _;rfl
    |cons x r ih=>intro h;simp[ih (fun y hy=>h y (by simp[hy])),h x (by simp)];omega
   rw[key b h1] at hs
   exact hs.symm
 ·intro ⟨h1,h2⟩
  exact ajp (fun x _=>List.nodup_iff_count.1 h1 x) (by rw[hs,h2])
end Go.Pv
namespace Go.Pv.R
set_option linter.unusedVariables false
set_option linter.unusedSimpArgs false
abbrev aR:=QJ
abbrev bY:=bJ
theorem AG {l:List Int} {n:Int} (h:l.length≤maxLen):mM l n=(l.count n:Int):=by
 have:=AF n l 0 0 (by omega)
 rw[Nat.zero_add] at this
 exact this
def jd (l:List Int) (n:Int):Bool:=l.any fun x=>x==n
theorem la {l:List Int} {n:Int}:jd l n=true↔n∈l:=by
 unfold jd
 rw[List.any_eq_true]
 constructor
 ·rintro⟨x,hx,h⟩
  have:x=n:=by simpa using h
  exact this▸hx
 ·intro h;exact⟨n,h,by simp⟩
theorem qC {N:Nat} {l:List Int} {n:Int} {kf:Bool→Option aa} (hl:l.length≤maxLen) (hN:l.length<N):vB N l n kf=kf (jd l n):=by
 unfold vB
 rw[Zw hl hN,jF (p:=fun x:Int=>x==n) (kf:=fun _=>kf true) (fun i x next=>rfl)]
 unfold jd
 rw[←Ic]
 unfold fO
 cases hJ (fun x:Int=>x==n) l 0
 ·rfl
 ·rw[decide_eq_true (by simp)]
theorem Fx {N:Nat} {l:List Int} {n:Int} {kf:Bool→Option aa} (hl:l.length≤maxLen) (hN:l.length<N):S82 N l n kf=kf (jd l n):=by
 unfold S82 RT
 rw[Ia hl hN,jF (p:=fun x:Int=>n==x) (kf:=fun i=>kf (decide ((i:Int)≥0))) (fun i x next=>rfl)]
 have e:jd l n=l.any fun x=>n==x:=by
  unfold jd
  congr 1
  funext x
  apply Bool.eq_iff_iff.2
  rw[beq_iff_eq,beq_iff_eq]
  exact⟨fun h=>h.symm,fun h=>h.symm⟩
 rw[e,←Ic]
 unfold fO
 cases hJ (fun x:Int=>n==x) l 0<;>rfl
def cw (l:List aR) (id:Int):Int:=fO (fun x:aR=>x.1==id) l
theorem VK {N:Nat} {l:List aR} {id:Int} {kf:Int→Option aa} (hl:l.length≤maxLen) (hN:l.length<N):Ff N l id kf=kf (cw l id):=by
 unfold Ff
 rw[ZD hl hN,jF (p:=fun x:aR=>x.1==id) (kf:=fun i=>kf (i:Int)) (fun i x next=>rfl)]
 unfold cw fO
 cases hJ (fun x:aR=>x.1==id) l 0<;>rfl
theorem art {N:Nat} {l:List aR} {id:Int} {kf:Int→Option aa} (hl:l.length≤maxLen) (hN:l.length<N):S80 N l id kf=kf (cw l id):=by
 unfold S80
 rw[adp hl hN]
 simp only[I81]
 rw[jF (p:=fun x:aR=>x.1==id) (kf:=fun i=>kf (i:Int)) (fun i x next=>rfl)]
 unfold cw fO
 cases hJ (fun x:aR=>x.1==id) l 0<;>rfl
theorem VL {N:Nat} {l:List aR} {id:Int} {kf:Int→Option aa} (hl:l.length≤maxLen) (hN:l.length<N):RZ N l id kf=kf (cw l id):=by
 unfold RZ aqY
 rw[Zj hl hN]
 simp only[aiH]
 rw[jF (p:=fun x:aR=>x.1==id) (kf:=fun i=>kf (i:Int)) (fun i x next=>rfl)]
 unfold cw fO
 cases hJ (fun x:aR=>x.1==id) l 0<;>rfl
def NX (s:List Int):Bool:=allI (fun i y=>hY y 1 99&&(decide (i=0)||decide (s.getD (i - 1) 0<y))) s 0
def mO (l:List aR) (i:Nat) (x:aR):Bool:=hY x.1 1 99&&(hY x.2.1 1 99&&((decide (i=0)||decide ((l.getD (i - 1) cg).1<x.1))&&NX x.2.2))
def bw (l:List aR):Bool:=decide (l.length≤10)&&allI (mO l) l 0
theorem Sv {α:Type} {l:List α} {i:Nat} {z:α} {g:α→Int} {y:Int} {A B:Option aa} (hi:i<l.length) (hl:l.length≤maxLen):(bif (decide ((i:Int)>(0:Int))) then
    bif (aQ (IntKind.wrap .i64 ((i:Int) - (1:Int))) (List.length l)) then
     bif (decide (y≤g (List.getD l (Int.toNat (IntKind.wrap .i64 ((i:Int) - (1:Int)))) z))) then A else B
    else none
   else B)=bif (decide (i=0)||decide (g (l.getD (i - 1) z)<y)) then B else A:=by
 by_cases h0:i=0
 ·subst h0;simp
 ·rw[decide_eq_true (show(i:Int)>0 by omega),cond_true,oM (by omega) hi hl,ak (by omega),cond_true,Int.toNat_natCast,decide_eq_false h0,Bool.false_or]
  by_cases hc:g (l.getD (i - 1) z)<y
  ·rw[decide_eq_false (by omega),decide_eq_true hc];rfl
  ·rw[decide_eq_true (by omega),decide_eq_false hc];rfl
theorem VM {α:Type} {l:List α} {i:Nat} {z:α} {g:α→Int} {y:Int} {A B:Option aa} (hi:i<l.length) (hl:l.length≤maxLen):(bif (decide ((i:Int)>(0:Int))) then
    bif (aQ (IntKind.wrap .i64 ((i:Int) - (1:Int))) (List.length l)) then
     bif (decide (g (List.getD l (Int.toNat (IntKind.wrap .i64 ((i:Int) - (1:Int)))) z)≥y)) then A else B
    else none
   else B)=bif (decide (i=0)||decide (g (l.getD (i - 1) z)<y)) then B else A:=Sv hi hl
theorem JE {N:Nat} {l:List aR} {kf:Bool→Option aa} (hl:l.length≤maxLen) (hm:∀ x∈l,x.2.2.length≤maxLen∧x.2.2.length<N) (hN:l.length<N):Y6 N l kf=kf (bw l):=by
 unfold Y6
 rw[Zy hl hN,gf (l:=l) (p:=mO l) (kf:=kf false) (fun i x next h e=>?_) l 0 rfl]
 ·unfold bw
  cases allI (mO l) l 0
  ·simp
  ·simp only[cond_true,Bool.and_true]
   congr 1
   apply Bool.eq_iff_iff.2
   simp
   omega
 ·have hx:x∈l:=by rw[←e];exact List.getElem_mem h
  obtain⟨m1,m2⟩:=hm x hx
  have inner:iB N l (i:Int) N next kf (0:Int)=bif NX x.2.2 then next else kf false:=by
   have hg:List.getD l (Int.toNat (i:Int)) cg=x:=by rw[Int.toNat_natCast,ah _ _ h,e]
   rw[Zx (ak h) (by rw[hg];exact m1) (by rw[hg];exact m2)]
   simp only[hg]
   rw[gf (l:=x.2.2) (p:=fun i y=>hY y 1 99&&(decide (i=0)||decide (x.2.2.getD (i - 1) 0<y))) (kf:=kf false) (fun j y next' hj ej=>?_) x.2.2 0 rfl]
   ·rfl
   ·rw[lR]
    have:=VM (l:=x.2.2) (z:=(0:Int)) (g:=fun x=>x) (y:=y) (A:=kf false) (B:=next') hj m1
    rw[this]
    cases hY y 1 99<;>simp
  simp only[lR,inner]
  have ho:=fun A B=>VM (l:=l) (z:=cg) (g:=fun x=>x.1) (y:=x.1) (A:=A) (B:=B) h hl
  simp only[ho]
  unfold mO
  cases hY x.1 1 99<;>simp
  cases hY x.2.1 1 99<;>simp
  cases (decide (i=0)||decide ((l[i - 1]?.getD cg).1<x.1))<;>simp
theorem Sw {N:Nat} {l:List aR} {kf:Bool→Option aa} (hl:l.length≤maxLen) (hm:∀ x∈l,x.2.2.length≤maxLen∧x.2.2.length<N) (hN:l.length<N):I79 N l kf=kf (bw l):=by
 unfold I79
 by_cases h10:l.length≤10
 rotate_left
 ·rw[decide_eq_true (by omega),cond_true]
  unfold bw
  rw[decide_eq_false h10]
  rfl
 rw[decide_eq_false (by omega),cond_false]
 rw[adn hl hN,gf (l:=l) (p:=mO l) (kf:=kf false) (fun i x next h e=>?_) l 0 rfl]
 ·unfold bw
  rw[decide_eq_true h10,Bool.true_and]
  cases allI (mO l) l 0<;>rfl
 ·have hx:x∈l:=by rw[←e];exact List.getElem_mem h
  obtain⟨m1,m2⟩:=hm x hx
  have inner:mF N l x l (List.length l:Int) (i:Int) x.2.2 (List.length x.2.2:Int) N next kf (0:Int)=bif NX x.2.2 then next else kf false:=by
   rw[adm m1 m2]
   rw[gf (l:=x.2.2) (p:=fun i y=>hY y 1 99&&(decide (i=0)||decide (x.2.2.getD (i - 1) 0<y))) (kf:=kf false) (fun j y next' hj ej=>?_) x.2.2 0 rfl]
   ·rfl
   ·rw[nF]
    have:=Sv (l:=x.2.2) (z:=(0:Int)) (g:=fun x=>x) (y:=y) (A:=kf false) (B:=next') hj m1
    rw[this]
    cases hY y 1 99<;>simp
  simp only[nF,inner]
  have ho:=fun A B=>Sv (l:=l) (z:=cg) (g:=fun x=>x.1) (y:=x.1) (A:=A) (B:=B) h hl
  simp only[ho]
  unfold mO
  cases hY x.1 1 99<;>simp
  cases hY x.2.1 1 99<;>simp
  cases (decide (i=0)||decide ((l[i - 1]?.getD cg).1<x.1))<;>simp
def Cq (l:List ar) (id:Int):Int:=(l.getD (aw l id).toNat aj).2.1
def awc (l:List ar) (id:Int):List Int:=(l.getD (aw l id).toNat aj).met
def oN (l:List ar) (a b:Int):Bool:=decide (aw l a≥0)&&jd (awc l a) b
def b9 (l:List ar) (a b:Int):Bool:=ay l&&(decide (aw l a≥0)&&(decide (aw l b≥0)&&((aw l a != aw l b)&&((Cq l a != Cq l b)&& !oN l a b))))
theorem de {l:List ar} {id:Int} (h:aw l id≥0):aQ (aw l id) l.length=true∧(aw l id).toNat<l.length:=by
 obtain⟨k,hk,e,_⟩:=bB (p:=fun x:ar=>x.1==id) (l:=l) (by unfold aw at h;omega)
 have e:aw l id=(k:Int):=e
 rw[e]
 exact⟨ak hk,by simpa using hk⟩
theorem ajq {N:Nat} {l:List ar} {a b:Int} {kf:Bool→Option aa} (hl:l.length≤maxLen) (hm:∀ x∈l,x.met.length≤maxLen∧x.met.length<N) (hN:l.length<N):aiW N l a b kf=kf (oN l a b):=by
 unfold aiW oN
 rw[jG hl hN]
 by_cases h:aw l a≥0
 ·obtain⟨h1,h2⟩:=de h
  have hx:l.getD (aw l a).toNat aj∈l:=by rw[ah _ _ h2];exact List.getElem_mem h2
  obtain⟨m1,m2⟩:=hm _ hx
  rw[decide_eq_true h,cond_true,h1,cond_true,qC m1 m2]
  rfl
 ·rw[decide_eq_false h];rfl
theorem aru {N:Nat} {l:List ar} {a b:Int} {kf:Bool→Option aa} (hl:l.length≤maxLen) (hm:∀ x∈l,x.met.length≤maxLen∧x.met.length<N) (hN:l.length<N):I19 N l a b kf=kf (oN l a b):=by
 unfold I19 oN
 rw[mL hl hN]
 by_cases h:aw l a≥0
 ·obtain⟨h1,h2⟩:=de h
  have hx:l.getD (aw l a).toNat aj∈l:=by rw[ah _ _ h2];exact List.getElem_mem h2
  obtain⟨m1,m2⟩:=hm _ hx
  rw[decide_eq_true h,cond_true,h1,cond_true,Fx m1 m2]
  rfl
 ·rw[decide_eq_false h];rfl
theorem VN {N:Nat} {l:List ar} {a b:Int} {kf:Bool→Option aa} (hl:l.length≤maxLen) (hm:∀ x∈l,x.met.length≤maxLen∧x.met.length<N) (hN:l.length<N):Sb N l a b kf=kf (b9 l a b):=by
 unfold Sb b9
 rw[jG hl hN,jG hl hN,kJ hl hm hN]
 cases ay l
 ·rfl
 by_cases ha:aw l a≥0
 rotate_left
 ·rw[decide_eq_false ha];rfl
 by_cases hb:aw l b≥0
 rotate_left
 ·rw[decide_eq_true ha,decide_eq_false hb];rfl
 rw[decide_eq_true ha,decide_eq_true hb,(de ha).1,(de hb).1,ajq hl hm hN]
 simp only[cond_true,Bool.true_and]
 cases aw l a != aw l b
 ·rfl
 unfold Cq
 cases (l.getD (aw l a).toNat aj).2.1 != (l.getD (aw l b).toNat aj).2.1<;>rfl
theorem adJ {N:Nat} {l:List ar} {a b:Int} {kf:Bool→Option aa} (hl:l.length≤maxLen) (hm:∀ x∈l,x.met.length≤maxLen∧x.met.length<N) (hN:l.length<N):I77 N l a b kf=kf (b9 l a b):=by
 unfold I77 b9
 rw[mL hl hN,mL hl hN,lS hl hm hN]
 cases ay l
 ·rfl
 by_cases ha:aw l a≥0
 rotate_left
 ·rw[decide_eq_false ha];rfl
 by_cases hb:aw l b≥0
 rotate_left
 ·rw[decide_eq_true ha,decide_eq_false hb];rfl
 rw[decide_eq_true ha,decide_eq_true hb,(de ha).1,(de hb).1,aru hl hm hN]
 simp only[cond_true,Bool.true_and]
 cases aw l a != aw l b
 ·rfl
 unfold Cq
 cases (l.getD (aw l a).toNat aj).2.1 != (l.getD (aw l b).toNat aj).2.1<;>rfl
def Fy (t:List ar) (j:aR) (id:Int):Bool:=decide (aw t id≥0)&&((Cq t id != j.2.1)&& !jd j.2.2 id)
def dF (t:List ar) (j:aR) (p:bY):Bool:=Fy t j p.1&&Fy t j p.2
theorem VO {N:Nat} {t:List ar} {j:aR} {p:bY} {kf:Bool→Option aa} (hl:t.length≤maxLen) (hN:t.length<N) (h1:j.2.2.length≤maxLen) (h2:j.2.2.length<N):Y7 N t j p kf=kf (dF t j p):=by
 unfold Y7 dF Fy
 rw[jG hl hN,jG hl hN]
 by_cases ha:aw t p.1≥0
 rotate_left
 ·rw[decide_eq_false ha];rfl
 by_cases hb:aw t p.2≥0
 rotate_left
 ·rw[decide_eq_true ha,decide_eq_false hb];simp
 rw[decide_eq_true ha,decide_eq_true hb,(de ha).1,(de hb).1,qC h1 h2]
 simp only[qC h1 h2,cond_true,Bool.true_and]
 unfold Cq
 cases (t.getD (aw t p.1).toNat aj).2.1 != j.2.1
 ·rfl
 cases (t.getD (aw t p.2).toNat aj).2.1 != j.2.1
 ·simp
 cases jd j.2.2 p.1<;>simp
theorem adK {N:Nat} {t:List ar} {j:aR} {p:bY} {kf:Bool→Option aa} (hl:t.length≤maxLen) (hN:t.length<N) (h1:j.2.2.length≤maxLen) (h2:j.2.2.length<N) (h3:2<N):I83 N t j p kf=kf (dF t j p):=by
 have key:∀ (id:Int) (next:Option aa),(Ny N t id (fun(kY:Int)=>
     bif (decide (kY<(0:Int))) then
      kf false
     else
      bif (aQ kY (List.length t)) then
       bif ((List.getD t (Int.toNat kY) aj).2.1==j.2.1) then
        kf false
       else
        S82 N j.2.2 id (fun(sw:Bool)=>
         bif sw then
          kf false
         else
          next)
      else none))=bif Fy t j id then next else kf false:=fun id next=>by
  rw[mL hl hN]
  unfold Fy
  by_cases ha:aw t id≥0
  rotate_left
  ·rw[decide_eq_false ha,decide_eq_true (by omega)];rfl
  rw[decide_eq_true ha,decide_eq_false (by omega),(de ha).1,Fx h1 h2]
  simp only[cond_true,cond_false,Bool.true_and]
  unfold Cq
  cases hc:(t.getD (aw t id).toNat aj).2.1==j.2.1
  ·simp only[bne,hc,Bool.not_false,Bool.true_and,cond_false]
   cases jd j.2.2 id<;>rfl
  ·simp only[bne,hc,Bool.not_true,Bool.false_and,cond_false,cond_true]
 unfold I83
 rw[adq (by rw[au];simp) (by simpa using h3)]
 simp only[mf,key]
 unfold dF
 cases Fy t j p.1
 ·rfl
 ·simp
  cases Fy t j p.2<;>rfl
end Go.Pv.R
namespace Go.Pv.R
set_option linter.unusedVariables false
set_option linter.unusedSimpArgs false
theorem ajr {N:Nat} {l:List ar} {kf:Int→Option aa} (hl:l.length≤maxLen) (hm:∀ x∈l,x.met.length≤maxLen∧x.met.length<N) (hN:l.length<N):aiZ N l kf=kf (bif ay l then foldI (fun _ (x:ar) s=>IntKind.wrap .i64 (s+x.2.2.1)) l 0 0 else 0):=by
 unfold aiZ
 rw[ZB hl hN]
 simp only[kJ hl hm hN]
 cases ay l with
 |false=>cases l<;>rfl
 |true=>
  simp only[cond_true]
  rw[pN (fun _ (x:ar) s=>IntKind.wrap .i64 (s+x.2.2.1)) (fun i x s next h e=>rfl)]
theorem ajs {N:Nat} {l:List ar} {kf:Int→Option aa} (hl:l.length≤maxLen) (hm:∀ x∈l,x.met.length≤maxLen∧x.met.length<N) (hN:l.length<N):aiE N l kf=kf (bif ay l then foldI (fun _ (x:ar) s=>IntKind.wrap .i64 (s+x.2.2.1)) l 0 0 else 0):=by
 unfold aiE
 rw[lS hl hm hN]
 cases ay l with
 |false=>rfl
 |true=>
  simp only[cond_true,Bool.not_true,cond_false]
  rw[Zi hl hN,pN (fun _ (x:ar) s=>IntKind.wrap .i64 (s+x.2.2.1)) (fun i x s next h e=>rfl)]
def mP (l:List ar):Int:=bif ay l then foldI (fun _ (x:ar) s=>IntKind.wrap .i64 (s+x.2.2.1)) l 0 0 else 0
abbrev eQ:=QB
def bM (b:eQ):Bool:=hY b.1 1 99&&(hY b.2.1 0 100&&(hY b.2.2 0 100&&(b.2.1 != b.2.2)))
theorem JF {N:Nat} {b:eQ} {kf:Bool→Option aa}:NR N b kf=kf (bM b):=by
 unfold NR bM
 simp only[lR]
 cases hY b.1 1 99<;>simp
 cases hY b.2.1 0 100<;>simp
 cases hY b.2.2 0 100<;>simp
theorem JG {N:Nat} {b:eQ} {kf:Bool→Option aa}:NC N b kf=kf (bM b):=by
 unfold NC bM
 simp only[nF]
 cases hY b.1 1 99<;>simp
 cases hY b.2.1 0 100<;>simp
 cases hY b.2.2 0 100<;>simp
def cR (r:List bY):List Int:=r.flatMap fun p=>[p.1,p.2]
def br (l:List ar):List Int:=l.map fun x=>x.1
def fe (l:List ar) (r:List bY):Bool:=r.all (fun p=>b9 l p.1 p.2)&&l.all (fun x=>decide ((cR r).count x.1=1))
theorem ZO (r:List bY):(cR r).length=2*r.length:=by
 induction r with
 |nil=>rfl
 |cons p r ih=>simp only[cR,List.flatMap_cons,List.length_append,List.length_cons,List.length_nil] at*;omega
theorem iV {l:List ar} {a b:Int} (h:b9 l a b=true):ay l=true∧a∈br l∧b∈br l∧a≠b:=by
 unfold b9 at h
 simp only[Bool.and_eq_true,decide_eq_true_eq] at h
 obtain⟨h0,ha,hb,nM,_⟩:=h
 have mem:∀ id:Int,aw l id≥0→id∈br l:=fun id hid=>by
  obtain⟨k,hk,_,h1,_⟩:=bB (p:=fun x:ar=>x.1==id) (l:=l) (by unfold aw at hid;omega)
  exact List.mem_map.2 ⟨l[k],List.getElem_mem hk,by simpa using h1⟩
 refine⟨h0,mem a ha,mem b hb,fun e=>?_⟩
 subst e
 simp at nM
theorem iW {l:List ar} (h:ay l=true):(br l).Nodup:=by
 unfold ay at h
 simp only[Bool.and_eq_true] at h
 have hm:=qB h.2.1
 have key:∀ (n:Nat) (r:List ar),l.drop n=r→(r.map fun x:ar=>x.1).Nodup:=by
  intro n r
  induction r generalizing n with
  |nil=>intro _;exact List.nodup_nil
  |cons x r ih=>
   intro hd
   have cf:n<l.length:=by have:=congrArg List.length hd;simp at this;omega
   rw[List.drop_eq_getElem_cons cf] at hd
   injection hd with h1 h2
   rw[List.map_cons,List.nodup_cons]
   refine⟨fun hx=>?_,ih (n+1) h2⟩
   obtain⟨y,hy,e⟩:=List.mem_map.1 hx
   rw[←h2] at hy
   obtain⟨j,hj,rfl⟩:=List.mem_iff_getElem.1 hy
   rw[List.getElem_drop] at e
   have hj':n+1+j<l.length:=by simp at hj;omega
   have:=hm n (n+1+j) hj' (by omega)
   rw[ah _ _ cf,h1] at this
   omega
 exact key 0 l rfl
theorem arv {N:Nat} {l:List ar} {r:List bY} {kf:Bool→Option aa} (hl:l.length≤maxLen) (hm:∀ x∈l,x.met.length≤maxLen∧x.met.length<N) (hN:l.length<N) (hr:r.length≤1048576) (hrN:2*r.length<N):I17 N l r kf=kf (fe l r):=by
 have hML:=au
 unfold I17
 rw[ado (by omega) (by omega)]
 have key:∀ (q:List bY) (i:Nat) (s:List Int) (cz:List Int→Option aa),r.drop i=q→s.length=2*i→bI (fun(i:Nat) (x:bJ) (bX:List Int) (next:List Int→Option aa)=>
    I77 N l x.1 x.2 (fun(kY:Bool)=>
     bif (!kY) then
      kf false
     else
      bif (decide ((List.length bX+List.length [x.1,x.2])*1≤4398046511104)) then
       next (bX++[x.1,x.2])
      else none)) cz q i s=bif q.all (fun p=>b9 l p.1 p.2) then cz (s++cR q) else kf false:=by
  intro q
  induction q with
  |nil=>intro i s cz _ _;simp[bI,cR]
  |cons p q ih=>
   intro i s cz hd hs
   have cf:i<r.length:=by have:=congrArg List.length hd;simp at this;omega
   rw[List.drop_eq_getElem_cons cf] at hd
   injection hd with h1 h2
   simp only[bI]
   rw[adJ hl hm hN]
   cases hmm:b9 l p.1 p.2 with
   |false=>simp[hmm]
   |true=>
    have iR:decide ((List.length s+List.length [p.1,p.2])*1≤4398046511104)=true:=decide_eq_true (by simp;omega)
    simp only[Bool.not_true,cond_false]
    rw[iR,cond_true,ih (i+1) _ cz h2 (by simp;omega)]
    simp[hmm,cR]
 refine Eq.trans (key r 0 [] _ rfl (by simp)) ?_
 unfold fe
 cases fI:r.all (fun p=>b9 l p.1 p.2) with
 |false=>rfl
 |true=>
  have hlen:(cR r).length≤maxLen∧(cR r).length<N:=by rw[ZO];omega
  rw[cond_true,List.nil_append,Zh hl hN,gf (l:=l) (p:=fun _ x=>decide ((cR r).count x.1=1)) (kf:=kf false) (fun i x next h e=>?_) l 0 rfl,xP (p:=fun x:ar=>decide ((cR r).count x.1=1))]
  ·simp only[Bool.true_and]
   cases l.all fun x=>decide ((cR r).count x.1=1)<;>rfl
  ·rw[Su hlen.1 hlen.2,AG hlen.1]
   by_cases h1:(cR r).count x.1=1
   ·simp[h1]
   ·have:(((cR r).count x.1:Int) != 1)=true:=by rw[bne_iff_ne];omega
    rw[this,decide_eq_false h1]
    rfl
theorem JH {l:List ar} {r:List bY}:(r.all (fun p=>b9 l p.1 p.2)&&(decide (cR r).Nodup&&(ay l&&decide ((cR r).length=l.length))))=fe l r:=by
 unfold fe
 cases fI:r.all (fun p=>b9 l p.1 p.2) with
 |false=>rfl
 |true=>
  rw[Bool.true_and,Bool.true_and]
  rw[List.all_eq_true] at fI
  have G3:∀ x∈cR r,x∈br l:=fun x hx=>by
   obtain⟨p,hp,hx⟩:=List.mem_flatMap.1 hx
   obtain⟨_,h1,h2,_⟩:=iV (fI p hp)
   simp at hx
   rcases hx with rfl |rfl
   ·exact h1
   ·exact h2
  cases ht:ay l with
  |true=>
   have:=NW (iW ht) G3
   apply Bool.eq_iff_iff.2
   rw[List.all_eq_true,Bool.true_and,Bool.and_eq_true,decide_eq_true_eq,decide_eq_true_eq]
   rw[show(br l).length=l.length by simp[br]] at this
   rw[←this]
   constructor
   ·intro h x hx;exact decide_eq_true (h x.1 (List.mem_map.2 ⟨x,hx,rfl⟩))
   ·intro h x hx
    obtain⟨y,hy,rfl⟩:=List.mem_map.1 hx
    simpa using h y hy
  |false=>
   -- then there are no pairs,and there are teams
   cases r with
   |cons p r=>have:=(iV (fI p (by simp))).1;rw[ht] at this;cases this
   |nil=>
    cases l with
    |nil=>simp[ay,allI] at ht
    |cons x l=>simp[cR]
theorem ajt {N:Nat} {l:List ar} {r:List bY} {kf:Bool→Option aa} (hl:l.length≤maxLen) (hm:∀ x∈l,x.met.length≤maxLen∧x.met.length<N) (hN:l.length<N) (hr:r.length≤1048576) (hrN:2*r.length<N):ai0 N l r kf=kf (fe l r):=by
 have hML:=au
 unfold ai0
 rw[ZC (by omega) (by omega)]
 have key:∀ (q:List bY) (i:Nat) (s:List Int) (cz:List Int→Option aa),r.drop i=q→s.length=2*i→s.Nodup→bI (fun(i:Nat) (x:bJ) (aG:List Int) (next:List Int→Option aa)=>
    Sb N l x.1 x.2 (fun(NO:Bool)=>
     bif (!NO) then
      kf false
     else
      vB N aG x.1 (fun(NP:Bool)=>
       bif NP then
        kf false
       else
        vB N aG x.2 (fun(NQ:Bool)=>
         bif NQ then
          kf false
         else
          bif (decide ((List.length aG+List.length [x.1,x.2])*1≤4398046511104)) then
           next (aG++[x.1,x.2])
          else none)))) cz q i s=bif q.all (fun p=>b9 l p.1 p.2)&&decide (s++cR q).Nodup then cz (s++cR q) else kf false:=by
  intro q
  induction q with
  |nil=>intro i s cz _ _ MG;simp[bI,cR,MG]
  |cons p q ih=>
   intro i s cz hd hs MG
   have cf:i<r.length:=by have:=congrArg List.length hd;simp at this;omega
   rw[List.drop_eq_getElem_cons cf] at hd
   injection hd with h1 h2
   simp only[bI]
   rw[VN hl hm hN]
   cases hmm:b9 l p.1 p.2 with
   |false=>simp[hmm]
   |true=>
    have nM:=(iV hmm).2.2.2
    have GZ:s.length≤maxLen∧s.length<N:=by omega
    have aw3:s++cR (p::q)=(s++[p.1,p.2])++cR q:=by simp[cR]
    simp only[Bool.not_true,cond_false]
    rw[qC GZ.1 GZ.2]
    cases h1':jd s p.1 with
    |true=>
     have lu:=la.1 h1'
     have: ¬(s++cR (p::q)).Nodup:=fun h=>by
      rw[List.nodup_append] at h
      exact h.2.2 p.1 lu p.1 (by simp[cR]) rfl
     rw[decide_eq_false this]
     simp
    |false=>
     rw[cond_false,qC GZ.1 GZ.2]
     cases h2':jd s p.2 with
     |true=>
      have lu:=la.1 h2'
      have: ¬(s++cR (p::q)).Nodup:=fun h=>by
       rw[List.nodup_append] at h
       exact h.2.2 p.2 lu p.2 (by simp[cR]) rfl
      rw[decide_eq_false this]
      simp
     |false=>
      have iR:decide ((List.length s+List.length [p.1,p.2])*1≤4398046511104)=true:=decide_eq_true (by simp;omega)
      have n1:p.1∉s:=fun h=>by rw[la.2 h] at h1';cases h1'
      have n2:p.2∉s:=fun h=>by rw[la.2 h] at h2';cases h2'
      have abb:(s++[p.1,p.2]).Nodup:=by
       rw[List.nodup_append]
       refine⟨MG,?_,?_⟩
       ·rw[List.nodup_cons]
        exact⟨by simpa using nM,by simp⟩
       ·intro a ha b hb e
        subst e
        simp at hb
        rcases hb with rfl |rfl
        ·exact n1 ha
        ·exact n2 ha
      rw[cond_false,iR,cond_true,ih (i+1) _ cz h2 (by simp;omega) abb,aw3]
      simp[hmm]
 refine Eq.trans (key r 0 [] _ rfl (by simp) List.nodup_nil) ?_
 rw[←JH]
 rw[List.nil_append]
 cases r.all (fun p=>b9 l p.1 p.2)
 ·rfl
 cases decide (cR r).Nodup
 ·rfl
 simp only[Bool.true_and,cond_true]
 rw[kJ hl hm hN]
 cases ay l
 ·rfl
 simp only[cond_true,Bool.true_and]
 congr 1
 apply Bool.eq_iff_iff.2
 rw[beq_iff_eq,decide_eq_true_eq]
 omega
theorem sJ {l:List aR} {id:Int} (h:cw l id≥0):aQ (cw l id) l.length=true∧(cw l id).toNat<l.length:=by
 obtain⟨k,hk,e,_⟩:=bB (p:=fun x:aR=>x.1==id) (l:=l) (by unfold cw at h;omega)
 have e:cw l id=(k:Int):=e
 rw[e]
 exact⟨ak hk,by simpa using hk⟩
def q9 (t:List ar) (l:List aR) (r:List bY) (ids:List Int) (i:Nat):Bool:=decide (cw l (ids.getD i 0)≥0)&&(!jd (ids.take i) (ids.getD i 0)&&dF t (l.getD (cw l (ids.getD i 0)).toNat cg) (r.getD i dm))
def c9 (t:List ar) (l:List aR) (r:List bY) (ids:List Int):Bool:=decide (ids.length=r.length)&&(bw l&&allI (fun i _=>q9 t l r ids i) r 0)
theorem aju {N:Nat} {t:List ar} {l:List aR} {r:List bY} {ids:List Int} {kf:Bool→Option aa} (ht:t.length≤maxLen) (htN:t.length<N) (hl:l.length≤maxLen) (hm:∀ x∈l,x.2.2.length≤maxLen∧x.2.2.length<N) (hN:l.length<N)
  (hr:r.length≤maxLen) (hrN:r.length<N):ai1 N t l r ids kf=kf (c9 t l r ids):=by
 unfold ai1 c9
 by_cases hlen:ids.length=r.length
 rotate_left
 ·have:((ids.length:Int) != (r.length:Int))=true:=by rw[bne_iff_ne];omega
  rw[this,decide_eq_false hlen];rfl
 have:((ids.length:Int) != (r.length:Int))=false:=by rw[hlen];exact bne_self_eq_false _
 rw[this,decide_eq_true hlen,cond_false,JE hl hm hN]
 cases bw l
 ·rfl
 simp only[Bool.not_true,cond_false,Bool.true_and]
 rw[ZE hr hrN,gf (l:=r) (p:=fun i _=>q9 t l r ids i) (kf:=kf false) (fun i x next h e=>?_) r 0 rfl]
 ·cases allI (fun i _=>q9 t l r ids i) r 0<;>rfl
 ·have hi:i<ids.length:=by omega
  have arw:(decide ((0:Int)≤(0:Int))&&decide ((0:Int)≤(i:Int))&&decide ((i:Int)≤(List.length ids:Int)))=true:=by simp;omega
  rw[ak hi,cond_true,arw]
  simp only[Int.toNat_natCast,cond_true]
  rw[VK hl hN]
  unfold q9
  by_cases hf:cw l (ids.getD i 0)≥0
  rotate_left
  ·rw[decide_eq_false hf,decide_eq_true (by omega)];rfl
  obtain⟨f1,f2⟩:=sJ hf
  have hx:l.getD (cw l (ids.getD i 0)).toNat cg∈l:=by rw[ah _ _ f2];exact List.getElem_mem f2
  obtain⟨m1,m2⟩:=hm _ hx
  rw[decide_eq_true hf,decide_eq_false (by omega),cond_false]
  have htk:(List.drop (Int.toNat 0) (List.take i ids))=ids.take i:=rfl
  rw[htk,qC (by simp;omega) (by simp;omega),f1]
  cases jd (ids.take i) (ids.getD i 0)
  ·rw[cond_false,cond_true,VO ht htN m1 m2]
   have hrx:r.getD i dm=x:=by rw[ah _ _ h,e]
   rw[hrx]
   cases dF t (l.getD (cw l (ids.getD i 0)).toNat cg) x<;>rfl
  ·rfl
theorem arx {N:Nat} {t:List ar} {l:List aR} {r:List bY} {ids:List Int} {kf:Bool→Option aa} (ht:t.length≤maxLen) (htN:t.length<N) (hl:l.length≤maxLen) (hm:∀ x∈l,x.2.2.length≤maxLen∧x.2.2.length<N) (hN:l.length<N)
  (hr:r.length≤maxLen) (hrN:r.length<N) (h2N:2<N):I18 N t l r ids kf=kf (c9 t l r ids):=by
 unfold I18 c9
 rw[Sw hl hm hN]
 cases bw l
 ·simp
 simp only[Bool.not_true,cond_false,Bool.true_and]
 by_cases hlen:ids.length=r.length
 rotate_left
 ·have:((ids.length:Int) != (r.length:Int))=true:=by rw[bne_iff_ne];omega
  rw[this,decide_eq_false hlen];rfl
 have:((ids.length:Int) != (r.length:Int))=false:=by rw[hlen];exact bne_self_eq_false _
 rw[this,decide_eq_true hlen,cond_false,Bool.true_and]
 have fI:allI (fun i _=>q9 t l r ids i) r 0=allI (fun i _=>q9 t l r ids i) ids 0:=by
  apply Bool.eq_iff_iff.2
  rw[dN,dN]
  exact⟨fun h j hj=>h j (by omega),fun h j hj=>h j (by omega)⟩
 rw[fI,adr (by omega) (by omega),gf (l:=ids) (p:=fun i _=>q9 t l r ids i) (kf:=kf false) (fun i x next h e=>?_) ids 0 rfl]
 ·cases allI (fun i _=>q9 t l r ids i) ids 0<;>rfl
 ·have hi:i<r.length:=by omega
  have arw:(decide ((0:Int)≤(0:Int))&&decide ((0:Int)≤(i:Int))&&decide ((i:Int)≤(List.length ids:Int)))=true:=by simp;omega
  have hid:ids.getD i 0=x:=by rw[ah _ _ h,e]
  rw[arw]
  simp only[Int.toNat_natCast,cond_true]
  rw[art hl hN]
  unfold q9
  rw[hid]
  by_cases hf:cw l x≥0
  rotate_left
  ·rw[decide_eq_false hf,decide_eq_true (by omega)];rfl
  obtain⟨f1,f2⟩:=sJ hf
  have hx:l.getD (cw l x).toNat cg∈l:=by rw[ah _ _ f2];exact List.getElem_mem f2
  obtain⟨m1,m2⟩:=hm _ hx
  rw[decide_eq_true hf,decide_eq_false (by omega),cond_false]
  have htk:(List.drop (Int.toNat 0) (List.take i ids))=ids.take i:=rfl
  rw[htk,Fx (by simp;omega) (by simp;omega),f1,ak hi]
  cases jd (ids.take i) x
  ·rw[cond_false,cond_true,cond_true,adK ht htN m1 m2 h2N]
   cases dF t (l.getD (cw l x).toNat cg) (r.getD i dm)<;>rfl
  ·rfl
end Go.Pv.R
namespace Go.Pv.R
set_option linter.unusedVariables false
set_option linter.unusedSimpArgs false
abbrev aF:=QC
structure bh (c:aF) (N:Nat):Prop where
 tl:c.1.length≤maxLen
 tm:∀ x:ar,x∈c.1→x.met.length≤maxLen∧x.met.length<N
 tN:c.1.length<N
 jl:c.2.1.length≤maxLen
 jm:∀ x∈c.2.1,x.2.2.length≤maxLen∧x.2.2.length<N
 jN:c.2.1.length<N
 rl:c.2.2.1.length≤1048576
 rN:2*c.2.2.1.length<N
 sl:c.2.2.2.1.length≤1048576
 sN:c.2.2.2.1.length<N
 bl:c.2.2.2.2.1.length≤1048576
 bN:c.2.2.2.2.1.length<N
 ml:c.2.2.2.2.2.1.length≤1048576
 mN:c.2.2.2.2.2.1.length<N
 n8:8<N
 tb:c.1.length≤1048700
 tmb:∀ x:ar,x∈c.1→x.met.length≤1048700
 jb:c.2.1.length≤1048700
 jmb:∀ x:aR,x∈c.2.1→x.2.2.length≤1048700
def gC (b:eQ):Bool:=(decide ((b.1:Int)=0))&&((decide ((b.2.1:Int)=0))&&(decide ((b.2.2:Int)=0)))
def jH (c:aF) (i:Nat) (b:eQ):Bool:=gC b||(bM b&&(b.1==c.2.2.2.1.getD i 0))
def bG (c:aF):Bool:=ay c.1&&(bw c.2.1&&(bW c.2.2.2.2.2.1&&(decide (c.2.2.2.1.length=c.2.2.1.length)&&(decide (c.2.2.2.2.1.length=c.2.2.1.length)&&
 ((decide (c.2.2.1.length=0)||(fe c.1 c.2.2.1&&c9 c.1 c.2.1 c.2.2.1 c.2.2.2.1))&&(allI (jH c) c.2.2.2.2.1 0&&(hY c.2.2.2.2.2.2 0 1000&&(mP c.1==c.2.2.2.2.2.2))))))))
theorem adL {a b:Nat}:((a:Int) != (b:Int))=!decide (a=b):=by
 apply Bool.eq_iff_iff.2
 simp
 omega
theorem Ie {N:Nat} {c:aF} {kf:Bool→Option aa} (h:bh c N) (hs:c.2.2.2.1.length=c.2.2.1.length) (hb:c.2.2.2.2.1.length=c.2.2.1.length):Jj N c kf=kf (allI (jH c) c.2.2.2.2.1 0&&(hY c.2.2.2.2.2.2 0 1000&&(mP c.1==c.2.2.2.2.2.2))):=by
 have hm:=au
 have:=h.bl
 unfold Jj
 rw[ads (by omega) h.bN,gf (l:=c.2.2.2.2.1) (p:=jH c) (kf:=kf false) (fun i b next hi e=>?_) c.2.2.2.2.1 0 rfl]
 ·cases allI (jH c) c.2.2.2.2.1 0
  ·rfl
  rw[cond_true,nF]
  cases hY c.2.2.2.2.2.2 0 1000
  ·rfl
  simp only[cond_true,Bool.true_and]
  rw[ajs h.tl h.tm h.tN]
  rfl
 ·rw[JG,ak (by omega),cond_true,Int.toNat_natCast]
  unfold jH gC
  cases (decide ((b.1:Int)=0))&&((decide ((b.2.1:Int)=0))&&(decide ((b.2.2:Int)=0)))
  ·simp only[Bool.not_false,cond_true,Bool.false_or]
   cases bM b
   ·rfl
   ·cases hc:b.1==c.2.2.2.1.getD i 0<;>simp only[bne,hc,Bool.not_true,Bool.not_false,cond_true,cond_false,Bool.and_true,Bool.and_false]
  ·rfl
theorem Fz {N:Nat} {c:aF} {kf:Bool→Option aa} (h:bh c N) (hs:c.2.2.2.1.length=c.2.2.1.length) (hb:c.2.2.2.2.1.length=c.2.2.1.length):Dq N c kf=kf (allI (jH c) c.2.2.2.2.1 0):=by
 have hm:=au
 have:=h.bl
 unfold Dq
 rw[ZF (by omega) h.bN,gf (l:=c.2.2.2.2.1) (p:=jH c) (kf:=kf false) (fun i b next hi e=>?_) c.2.2.2.2.1 0 rfl]
 ·cases allI (jH c) c.2.2.2.2.1 0<;>rfl
 ·rw[JF,ak (by omega),cond_true,Int.toNat_natCast]
  unfold jH gC
  cases (decide ((b.1:Int)=0))&&((decide ((b.2.1:Int)=0))&&(decide ((b.2.2:Int)=0)))
  ·simp only[Bool.not_false,cond_true,Bool.false_or]
   cases bM b
   ·rfl
   ·cases hc:b.1==c.2.2.2.1.getD i 0<;>simp only[bne,hc,Bool.not_true,Bool.not_false,cond_true,cond_false,Bool.and_true,Bool.and_false]
  ·rfl
theorem FA {N:Nat} {c:aF} {kf:Bool→Option aa} (h:bh c N):I39 N c kf=kf (bG c):=by
 have hm:=au
 have MC:=h.ml
 have h8:=h.n8
 have hr:=h.rl
 have hrN:=h.rN
 unfold I39 bG
 rw[lS h.tl h.tm h.tN]
 cases ay c.1
 ·rfl
 simp only[Bool.not_true,cond_false,Bool.true_and]
 rw[Sw h.jl h.jm h.jN]
 cases bw c.2.1
 ·rfl
 simp only[Bool.not_true,cond_false,Bool.true_and]
 rw[vH (by omega) h.mN (by omega)]
 cases bW c.2.2.2.2.2.1
 ·rfl
 simp only[Bool.not_true,cond_false,Bool.true_and,adL]
 by_cases hs:c.2.2.2.1.length=c.2.2.1.length
 rotate_left
 ·rw[decide_eq_false hs];rfl
 by_cases hb:c.2.2.2.2.1.length=c.2.2.1.length
 rotate_left
 ·rw[decide_eq_false hb,decide_eq_true hs];rfl
 rw[decide_eq_true hs,decide_eq_true hb]
 simp only[Bool.not_true,cond_false,Bool.true_and]
 unfold Vs
 by_cases h0:c.2.2.1.length=0
 ·rw[decide_eq_false (by omega)]
  simp only[cond_false]
  rw[Ie h hs hb,decide_eq_true h0]
  rfl
 ·rw[decide_eq_true (by omega)]
  simp only[cond_true]
  rw[arv h.tl h.tm h.tN h.rl h.rN,decide_eq_false h0]
  cases fe c.1 c.2.2.1
  ·rfl
  simp only[Bool.not_true,cond_false,Bool.true_and,Bool.false_or]
  rw[arx h.tl h.tN h.jl h.jm h.jN (by omega) (by omega) (by omega)]
  cases c9 c.1 c.2.1 c.2.2.1 c.2.2.2.1
  ·rfl
  simp only[Bool.not_true,cond_false,Bool.true_and]
  exact Ie h hs hb
theorem Du {N:Nat} {c:aF} {kf:Bool→Option aa} (h:bh c N):Sm N c kf=kf (bG c):=by
 have hm:=au
 have MC:=h.ml
 have h8:=h.n8
 have hr:=h.rl
 have hrN:=h.rN
 unfold Sm bG
 rw[kJ h.tl h.tm h.tN]
 cases ay c.1
 ·rfl
 simp only[Bool.not_true,cond_false,Bool.true_and]
 rw[JE h.jl h.jm h.jN]
 cases bw c.2.1
 ·rfl
 simp only[Bool.not_true,cond_false,Bool.true_and]
 rw[Dt (by omega) h.mN (by omega)]
 cases bW c.2.2.2.2.2.1
 ·rfl
 simp only[Bool.not_true,cond_false,Bool.true_and,adL]
 by_cases hs:c.2.2.2.1.length=c.2.2.1.length
 rotate_left
 ·rw[decide_eq_false hs];rfl
 by_cases hb:c.2.2.2.2.1.length=c.2.2.1.length
 rotate_left
 ·rw[decide_eq_false hb,decide_eq_true hs];rfl
 rw[decide_eq_true hs,decide_eq_true hb]
 simp only[Bool.not_true,cond_false,Bool.true_and,lR]
 cases hY c.2.2.2.2.2.2 0 1000
 ·simp
 simp only[Bool.not_true,cond_false,Bool.true_and]
 rw[ajr h.tl h.tm h.tN]
 show(bif mP c.1 != c.2.2.2.2.2.2 then kf false else _)=_
 cases ht:mP c.1==c.2.2.2.2.2.2
 ·simp only[bne,ht,Bool.not_false,cond_true,Bool.and_false]
 simp only[bne,ht,Bool.not_true,cond_false,Bool.and_true]
 by_cases h0:c.2.2.1.length=0
 ·rw[decide_eq_false (by omega),cond_false,Fz h hs hb,decide_eq_true h0]
  rfl
 ·rw[decide_eq_true (by omega),cond_true,ajt h.tl h.tm h.tN h.rl h.rN,decide_eq_false h0]
  cases fe c.1 c.2.2.1
  ·rfl
  simp only[Bool.not_true,cond_false,Bool.true_and,Bool.false_or]
  rw[aju h.tl h.tN h.jl h.jm h.jN (by omega) (by omega)]
  cases c9 c.1 c.2.1 c.2.2.1 c.2.2.2.1
  ·rfl
  simp only[Bool.not_true,cond_false,Bool.true_and]
  exact Fz h hs hb
def aX (c:aF):List Int:=gh (fun _ b=>gC b) (fun i _=>(i:Int)) c.2.2.2.2.1 0
theorem ajv {N:Nat} {c:aF} {kf:List Int→Option aa} (h:bh c N):ai2 N c kf=kf (aX c):=by
 have hm:=au
 have:=h.bl
 unfold ai2
 rw[ZG (by omega) h.bN,k9 (l:=c.2.2.2.2.1) (c:=fun _ b=>gC b) (f:=fun i _=>(i:Int)) (fun i b s next hi e hs=>?_) c.2.2.2.2.1 0 [] rfl (by simp),List.nil_append]
 ·rfl
 ·have iR:decide ((List.length s+List.length [(i:Int)])*1≤4398046511104)=true:=decide_eq_true (by simp;omega)
  rw[iR,cond_true]
  rfl
theorem ary {N:Nat} {c:aF} {kf:List Int→Option aa} (h:bh c N):I41 N c kf=kf (aX c):=by
 have hm:=au
 have:=h.bl
 unfold I41
 rw[adv (by omega) h.bN,k9 (l:=c.2.2.2.2.1) (c:=fun _ b=>gC b) (f:=fun i _=>(i:Int)) (fun i b s next hi e hs=>?_) c.2.2.2.2.1 0 [] rfl (by simp),List.nil_append]
 ·rfl
 ·have iR:decide ((List.length s+List.length [(i:Int)])*1≤4398046511104)=true:=decide_eq_true (by simp;omega)
  rw[iR,cond_true]
  rfl
def NY (l:List QL):Nat:=(l.filter fun x=>x.2.1==4).length
theorem tJ {a b c:Int}:hY a b c=true↔b≤a∧a≤c:=by unfold hY;simp
end Go.Pv.R
namespace Go.Pv
set_option linter.unusedVariables false
set_option linter.unusedSimpArgs false
theorem adM {α:Type} [DecidableEq α] {xs ys:List α} {body:Nat→α→Option aa→Option aa} {kt kf:Option aa} (hlen:xs.length=ys.length)
  (hb:∀ (i:Nat) (x:α) (next:Option aa) (h:i<xs.length) (h':i<ys.length),xs[i]=x→body i x next=bif decide (x=ys[i]) then next else kf):mf body kt xs 0=bif decide (xs=ys) then kt else kf:=by
 have key:∀ (r:List α) (i:Nat),xs.drop i=r→xs.take i=ys.take i→mf body kt r i=bif decide (xs=ys) then kt else kf:=by
  intro r
  induction r with
  |nil=>
   intro i hd he
   have:xs.length≤i:=by have:=congrArg List.length hd;simp at this;omega
   rw[List.take_of_length_le this,List.take_of_length_le (by omega)] at he
   rw[decide_eq_true he];rfl
  |cons x r ih=>
   intro i hd he
   have cf:i<xs.length:=by have:=congrArg List.length hd;simp at this;omega
   rw[List.drop_eq_getElem_cons cf] at hd
   injection hd with h1 h2
   simp only[mf]
   rw[hb i x _ cf (by omega) h1]
   by_cases hx:x=ys[i]
   ·rw[decide_eq_true hx,cond_true,ih (i+1) h2 (by rw[List.take_succ_eq_append_getElem cf,List.take_succ_eq_append_getElem (by omega),he,h1,hx])]
   ·rw[decide_eq_false hx,cond_false]
    have: ¬xs=ys:=fun e=>hx (by rw[←h1];simp only[e])
    rw[decide_eq_false this];rfl
 exact key xs 0 rfl rfl
theorem lens {α β:Type} {xs:List α} {ys:List β} {A B:Option aa} {p:Bool} {kf:Bool→Option aa} (h:xs.length=ys.length→B=kf p) (h':xs.length≠ys.length→p=false):(bif ((List.length xs:Int) != (List.length ys:Int)) then kf false else B)=kf p:=by
 by_cases hl:xs.length=ys.length
 ·have:((xs.length:Int) != (ys.length:Int))=false:=by rw[hl];exact bne_self_eq_false _
  rw[this,cond_false,h hl]
 ·have:((xs.length:Int) != (ys.length:Int))=true:=by rw[bne_iff_ne];omega
  rw[this,cond_true,h' hl]
end Go.Pv
namespace Go.Pv.R
set_option linter.unusedVariables false
set_option linter.unusedSimpArgs false
end Go.Pv.R
namespace Go.Pv.R
set_option linter.unusedVariables false
set_option linter.unusedSimpArgs false
theorem ZP (c:aF):(aX c).length≤c.2.2.2.2.1.length:=Cp _ _
end Go.Pv.R
namespace Go.Pv.R
set_option linter.unusedVariables false
set_option linter.unusedSimpArgs false
theorem Cr {α:Type}:∀ (l:List α) (i:Nat),gh (fun _ _=>true) (fun _ x=>x) l i=l
 |[],_=>rfl
 |x::r,i=>by simp only[gh,cond_true];rw[Cr r (i+1)]
theorem tK {α:Type} {body:Nat→α→List α→(List α→Option aa)→Option aa} {cz:List α→Option aa} {l:List α}
  (hb:∀ (i:Nat) (x:α) (s:List α) (next:List α→Option aa) (h:i<l.length),l[i]=x→s.length≤i→body i x s next=next (s++[x])):bI body cz l 0 []=cz l:=by
 rw[k9 (l:=l) (c:=fun _ _=>true) (f:=fun _ x=>x) (fun i x s next h e hs=>by rw[hb i x s next h e hs];rfl) l 0 [] rfl (by simp),Cr,List.nil_append]
theorem oO {α:Type} {l:List α} {b:Bool} {kf:List α→Option aa} (hb:b=true):
  (bif List.isEmpty l then both (kf []) (bif b then kf ([]++l) else none) else bif b then kf ([]++l) else none)=kf l:=by
 subst hb
 cases l with
 |nil=>exact l6 _
 |cons x r=>rfl
theorem Dv {N:Nat} {l:List Int} {kf:List Int→Option aa} (hl:l.length≤1048700):Jc N l kf=kf l:=by
 exact oO (decide_eq_true (by simp only[List.length_nil];omega))
theorem ajw {N:Nat} {l:List bJ} {kf:List bJ→Option aa} (hl:l.length≤1048576):aiw N l kf=kf l:=oO (decide_eq_true (by simp only[List.length_nil];omega))
theorem ajx {N:Nat} {l:List QB} {kf:List QB→Option aa} (hl:l.length≤1048576):aix N l kf=kf l:=oO (decide_eq_true (by simp only[List.length_nil];omega))
theorem JI {N:Nat} {l:List QL} {kf:List QL→Option aa} (hl:l.length≤1048576):YU N l kf=kf l:=oO (decide_eq_true (by simp only[List.length_nil];omega))
theorem qD {N:Nat} {l:List ar} {kf:List ar→Option aa} (hl:l.length≤1048700) (hm:∀ x:ar,x∈l→x.met.length≤1048700) (hN:l.length<N):Fb N l kf=kf l:=by
 have h0:=au
 unfold Fb
 rw[Zp (by omega) hN]
 refine tK (l:=l) fun i x s next h e hs=>?_
 have hx:x∈l:=by rw[←e];exact List.getElem_mem h
 have hxm:x.2.2.2.2.2.length≤1048700:=hm x hx
 rw[decide_eq_true (by simp only[List.length_nil];omega),decide_eq_true (by simp only[List.length_cons,List.length_nil];omega)]
 rfl
theorem JJ {N:Nat} {l:List aR} {kf:List aR→Option aa} (hl:l.length≤1048700) (hm:∀ x:aR,x∈l→x.2.2.length≤1048700) (hN:l.length<N):R8 N l kf=kf l:=by
 have h0:=au
 unfold R8
 rw[Zq (by omega) hN]
 refine tK (l:=l) fun i x s next h e hs=>?_
 have hx:x∈l:=by rw[←e];exact List.getElem_mem h
 have hxm:x.2.2.length≤1048700:=hm x hx
 rw[decide_eq_true (by simp only[List.length_nil];omega),decide_eq_true (by simp only[List.length_cons,List.length_nil];omega)]
 rfl
theorem JK {N:Nat} {l:List ar} {kf:List ar→Option aa} (hl:l.length≤1048700) (hm:∀ x:ar,x∈l→x.met.length≤1048700) (hN:l.length<N):RK N l kf=kf l:=by
 have h0:=au
 unfold RK
 rw[Zc (by omega) hN]
 refine tK (l:=l) fun i x s next h e hs=>?_
 have hx:x∈l:=by rw[←e];exact List.getElem_mem h
 have hxm:x.2.2.2.2.2.length≤1048700:=hm x hx
 rw[Dv hxm,decide_eq_true (by simp only[List.length_cons,List.length_nil];omega)]
 rfl
theorem ajy {N:Nat} {l:List aR} {kf:List aR→Option aa} (hl:l.length≤1048700) (hm:∀ x:aR,x∈l→x.2.2.length≤1048700) (hN:l.length<N):aiv N l kf=kf l:=by
 have h0:=au
 unfold aiv
 rw[Zd (by omega) hN]
 refine tK (l:=l) fun i x s next h e hs=>?_
 have hx:x∈l:=by rw[←e];exact List.getElem_mem h
 have hxm:x.2.2.length≤1048700:=hm x hx
 rw[Dv hxm,decide_eq_true (by simp only[List.length_cons,List.length_nil];omega)]
 rfl
theorem qE {N:Nat} {c:aF} {kf:aF→Option aa} (h:bh c N):R9 N c kf=kf c:=by
 have h0:=au
 have h1:=h.rl
 have h2:=h.sl
 have h3:=h.bl
 have h4:=h.ml
 unfold R9
 rw[qD h.tb h.tmb h.tN,JJ h.jb h.jmb h.jN,decide_eq_true (by simp only[List.length_nil];omega),decide_eq_true (by simp only[List.length_nil];omega),decide_eq_true (by simp only[List.length_nil];omega),decide_eq_true (by simp only[List.length_nil];omega)]
 rfl
theorem mQ {N:Nat} {c:aF} {kf:aF→Option aa} (h:bh c N):H5 N c kf=kf c:=by
 have h0:=au
 have h2:=h.sl
 unfold H5
 rw[JK h.tb h.tmb h.tN,ajy h.jb h.jmb h.jN,ajw h.rl,Dv (by omega),ajx h.bl,JI h.ml]
abbrev fG:=QL
def FC (l:List fG):Int:=(l.getLast?.map fun x=>x.2.2.2).getD 0
theorem adN {l:List fG} (h0:l≠[]):FC l=(List.getD l (l.length - 1) mZ).2.2.2:=by
 unfold FC
 rw[List.getLast?_eq_getElem?]
 have h1:l.length - 1<l.length:=by
  cases l with
  |nil=>exact absurd rfl h0
  |cons x r=>simp
 rw[List.getD_eq_getElem?_getD,List.getElem?_eq_getElem h1]
 rfl
theorem NZ {l:List fG} {kf:Int→Option aa} (hl:l.length≤maxLen):(bif ((List.length l:Int)==(0:Int)) then kf (0:Int) else
  bif (aQ (IntKind.wrap .i64 ((List.length l:Int) - (1:Int))) (List.length l)) then kf (List.getD l (Int.toNat (IntKind.wrap .i64 ((List.length l:Int) - (1:Int)))) mZ).2.2.2 else none)=kf (FC l):=by
 have hm:=au
 cases l with
 |nil=>rfl
 |cons x r=>
  have e1:((List.length (x::r):Int)==(0:Int))=false:=by simp only[List.length_cons];exact beq_eq_false_iff_ne.2 (by omega)
  rw[wrap64 (n:=(List.length (x::r):Int) - 1) (by omega) (by omega)]
  have e2:(List.length (x::r):Int) - 1=((List.length (x::r) - 1:Nat):Int):=by simp only[List.length_cons];omega
  rw[e1,e2,ak (by simp),adN (by simp)]
  simp only[cond_true,cond_false,Int.toNat_natCast]
theorem ajz {N:Nat} {l:List fG} {kf:Int→Option aa} (hl:l.length≤maxLen):arb N l kf=kf (FC l):=NZ hl
theorem ajA {N:Nat} {l:List fG} {kf:Int→Option aa} (hl:l.length≤maxLen):aqR N l kf=kf (FC l):=NZ hl
def lD (l:List fG) (aZ dC:Int):fG:=((l.length:Int)+1,(aZ,(dC,xO (FC l) ((l.length:Int)+1,(aZ,(dC,0))))))
def jI (l:List fG) (aZ dC:Int):Bool:=bW (l++[lD l aZ dC])
def fH (l:List fG) (aZ dC:Int):List fG:=bif jI l aZ dC then l++[lD l aZ dC] else l
theorem Sx (l:List fG) (aZ dC:Int):(fH l aZ dC).length≤l.length+1:=by
 unfold fH
 cases jI l aZ dC<;>simp
theorem Ig {l:List fG} {aZ dC:Int} (h:jI l aZ dC=true):(fH l aZ dC).length≤200:=by
 unfold fH
 rw[h]
 unfold jI bW at h
 simp only[Bool.and_eq_true,decide_eq_true_eq] at h
 exact h.1
theorem VP {N:Nat} {l:List fG} {aZ dC:Int} {kf:List fG→Bool→Option aa} (hl:l.length≤1048576) (hN:l.length+1<N) (h4:4<N):Y8 N l aZ dC kf=kf (fH l aZ dC) (jI l aZ dC):=by
 have hm:=au
 unfold Y8
 rw[ajz (by omega),VG h4,wrap64 (n:=(List.length l:Int)+1) (by omega) (by omega),decide_eq_true (by simp only[List.length_nil];omega)]
 simp only[List.nil_append,cond_true]
 rw[decide_eq_true (by simp only[List.length_cons,List.length_nil];omega),cond_true,Dt (by simp only[List.length_append,List.length_cons,List.length_nil];omega) (by simp only[List.length_append,List.length_cons,List.length_nil];omega) h4]
 show(bif (!jI l aZ dC) then kf l false else kf (l++[lD l aZ dC]) true)=_
 unfold fH
 cases jI l aZ dC<;>rfl
theorem ajB {N:Nat} {l:List fG} {aZ dC:Int} {kf:List fG→Bool→Option aa} (hl:l.length≤1048576) (hN:l.length+1<N) (h4:4<N):aiD N l aZ dC kf=kf (fH l aZ dC) (jI l aZ dC):=by
 have hm:=au
 unfold aiD
 rw[ajA (by omega),VH h4,wrap64 (n:=(List.length l:Int)+1) (by omega) (by omega),JI hl,decide_eq_true (by simp only[List.length_cons,List.length_nil];omega),cond_true,vH (by simp only[List.length_append,List.length_cons,List.length_nil];omega) (by simp only[List.length_append,List.length_cons,List.length_nil];omega) h4,JI hl]
 show(bif (!jI l aZ dC) then kf l false else kf (l++[lD l aZ dC]) true)=_
 unfold fH
 cases jI l aZ dC<;>rfl
def lT (c:aF) (l:List fG):aF:=(c.1,(c.2.1,(c.2.2.1,(c.2.2.2.1,(c.2.2.2.2.1,(l,c.2.2.2.2.2.2))))))
def dW (c out:aF) (aZ dC:Int):Bool:=jI c.2.2.2.2.2.1 aZ dC&&(bG c&&bG (lT out (fH c.2.2.2.2.2.1 aZ dC)))
def ff (c out:aF) (aZ dC:Int):aF:=bif dW c out aZ dC then lT out (fH c.2.2.2.2.2.1 aZ dC) else c
theorem FD {c:aF} {N:Nat} {l:List fG} (h:bh c N) (hl:l.length≤200) (hN:200<N):bh (lT c l) N:=
 ⟨h.tl,h.tm,h.tN,h.jl,h.jm,h.jN,h.rl,h.rN,h.sl,h.sN,h.bl,h.bN,by show l.length≤_;omega,by show l.length<_;omega,h.n8,h.tb,h.tmb,h.jb,h.jmb⟩
theorem vJ {N:Nat} {c out:aF} {ok:Bool} {aZ dC:Int} {kf:aF→Bool→Option aa} (h:bh c N) (ho:ok=true→bh out N) (hN:200<N) (hl:c.2.2.2.2.2.1.length+1<N):
  Y9 N c out ok aZ dC kf=bif ok then kf (ff c out aZ dC) (dW c out aZ dC) else kf c false:=by
 have h8:=h.n8
 unfold Y9
 rw[VP h.ml hl (by omega)]
 simp only[qE h,Du h]
 cases ok with
 |false=>rfl
 |true=>
  unfold ff dW
  cases hw:jI c.2.2.2.2.2.1 aZ dC with
  |false=>rfl
  |true=>
   cases hc:bG c with
   |false=>rfl
   |true=>
    have:=Du (N:=N) (kf:=fun r=>bif !r then kf c false else kf (lT out (fH c.2.2.2.2.2.1 aZ dC)) true) (FD (ho rfl) (Ig hw) hN)
    refine this.trans ?_
    simp only[Bool.true_and]
    cases bG (lT out (fH c.2.2.2.2.2.1 aZ dC))<;>rfl
theorem tL {N:Nat} {c out:aF} {aZ dC:Int} {kf:aF→Bool→Option aa} (h:bh c N) (ho:bh out N) (he:out.2.2.2.2.2.1=c.2.2.2.2.2.1) (hN:200<N) (hl:c.2.2.2.2.2.1.length+1<N):
  Jk N c out aZ dC kf=kf (ff c out aZ dC) (dW c out aZ dC):=by
 have h8:=h.n8
 unfold Jk
 rw[he,ajB h.ml hl (by omega)]
 simp only[mQ h,FA h]
 unfold ff dW
 cases hw:jI c.2.2.2.2.2.1 aZ dC with
 |false=>rfl
 |true=>
  cases hc:bG c with
  |false=>rfl
  |true=>
   have:=FA (N:=N) (kf:=fun r=>bif !r then kf c false else kf (lT out (fH c.2.2.2.2.2.1 aZ dC)) true) (FD ho (Ig hw) hN)
   refine this.trans ?_
   simp only[Bool.true_and]
   cases bG (lT out (fH c.2.2.2.2.2.1 aZ dC))<;>rfl
theorem nG {c:aF} (h:bG c=true):c.2.2.2.1.length=c.2.2.1.length∧c.2.2.2.2.1.length=c.2.2.1.length:=by
 unfold bG at h
 simp only[Bool.and_eq_true,decide_eq_true_eq] at h
 exact⟨h.2.2.2.1,h.2.2.2.2.1⟩
def ra (c:aF) (p f s:Int):eQ:=(c.2.2.2.1.getD p.toNat 0,(f,s))
def ajC (c:aF) (l:List eQ):aF:=(c.1,(c.2.1,(c.2.2.1,(c.2.2.2.1,(l,c.2.2.2.2.2)))))
def nH (c:aF) (p f s:Int):Bool:=bG c&&((decide (0≤p)&&decide (p<c.2.2.1.length))&&(gC (c.2.2.2.2.1.getD p.toNat gQ)&&bM (ra c p f s)))
def oP (c:aF) (p f s:Int):aF:=ajC c (c.2.2.2.2.1.set p.toNat (ra c p f s))
theorem N0 {c:aF} {N:Nat} (h:bh c N) (p f s:Int):bh (oP c p f s) N:=
 ⟨h.tl,h.tm,h.tN,h.jl,h.jm,h.jN,h.rl,h.rN,h.sl,h.sN,by show(List.set _ _ _).length≤_;rw[List.length_set];exact h.bl,by show(List.set _ _ _).length<_;rw[List.length_set];exact h.bN,h.ml,h.mN,h.n8,h.tb,h.tmb,h.jb,h.jmb⟩
theorem ajD {N:Nat} {c:aF} {p f s:Int} {kf:aF→Bool→Option aa} (h:bh c N) (hN:200<N) (hl:c.2.2.2.2.2.1.length+1<N):
  ai7 N c p f s kf=bif nH c p f s then kf (ff c (oP c p f s) 4 (ra c p f s).1) (dW c (oP c p f s) 4 (ra c p f s).1) else kf c false:=by
 have hm:=au
 have hr:=h.rl
 unfold ai7
 rw[qE h,Du h]
 unfold nH
 cases hc:bG c with
 |false=>rfl
 |true=>
  obtain⟨l1,l2⟩:=nG hc
  simp only[Bool.not_true,cond_false,Bool.true_and]
  rw[wrap64 (n:=(List.length c.2.2.1:Int) - 1) (by omega) (by omega),lR]
  by_cases hp:0≤p∧p<c.2.2.1.length
  rotate_left
  ·have e1:hY p 0 ((List.length c.2.2.1:Int) - 1)=false:=by
    cases hx:hY p 0 ((List.length c.2.2.1:Int) - 1) with
    |false=>rfl
    |true=>rw[tJ] at hx;exact absurd ⟨hx.1,by omega⟩ hp
   have e2:(decide (0≤p)&&decide (p<c.2.2.1.length))=false:=by
    cases hx:(decide (0≤p)&&decide (p<c.2.2.1.length)) with
    |false=>rfl
    |true=>simp only[Bool.and_eq_true,decide_eq_true_eq] at hx;exact absurd hx hp
   rw[e1,e2]
   rfl
  ·obtain⟨hp0,ZQ⟩:=hp
   obtain⟨i,rfl⟩:∃ i:Nat,p=(i:Int):=⟨p.toNat,by omega⟩
   have e1:hY (i:Int) 0 ((List.length c.2.2.1:Int) - 1)=true:=tJ.2 ⟨by omega,by omega⟩
   have e2:(decide (0≤(i:Int))&&decide ((i:Int)<c.2.2.1.length))=true:=by simp only[Bool.and_eq_true,decide_eq_true_eq];omega
   rw[e1,e2]
   simp only[Bool.not_true,cond_false,Bool.true_and,Int.toNat_natCast,List.length_set]
   rw[ak (show i<c.2.2.2.2.1.length by omega),ak (show i<c.2.2.2.1.length by omega)]
   simp only[cond_true]
   have e3:List.getD (List.set c.2.2.2.2.1 i (List.getD c.2.2.2.1 i (0:Int),(f,s))) i gQ=(List.getD c.2.2.2.1 i (0:Int),(f,s)):=by
    rw[List.getD_eq_getElem?_getD,List.getElem?_set_self (by omega)]
    rfl
   rw[e3,JF]
   show(bif !gC (List.getD c.2.2.2.2.1 i gQ) then kf c false else _)=_
   cases gC (List.getD c.2.2.2.2.1 i gQ) with
   |false=>rfl
   |true=>
    simp only[Bool.not_true,cond_false,Bool.true_and]
    exact vJ (out:=oP c (i:Int) f s) h (fun _=>N0 h _ _ _) hN hl
theorem arz {N:Nat} {c:aF} {p f s:Int} {kf:aF→Bool→Option aa} (h:bh c N) (hN:200<N) (hl:c.2.2.2.2.2.1.length+1<N):
  I35 N c p f s kf=bif nH c p f s then kf (ff c (oP c p f s) 4 (ra c p f s).1) (dW c (oP c p f s) 4 (ra c p f s).1) else kf c false:=by
 have hm:=au
 have hr:=h.rl
 unfold I35
 rw[mQ h,FA h]
 unfold nH
 cases hc:bG c with
 |false=>rfl
 |true=>
  obtain⟨l1,l2⟩:=nG hc
  simp only[Bool.not_true,cond_false,Bool.true_and]
  by_cases hp:0≤p∧p<c.2.2.1.length
  rotate_left
  ·have e2:(decide (0≤p)&&decide (p<c.2.2.1.length))=false:=by
    cases hx:(decide (0≤p)&&decide (p<c.2.2.1.length)) with
    |false=>rfl
    |true=>simp only[Bool.and_eq_true,decide_eq_true_eq] at hx;exact absurd hx hp
   rw[e2]
   by_cases h0:p<0
   ·rw[decide_eq_true h0];rfl
   ·rw[decide_eq_false h0,decide_eq_true (show p≥(List.length c.2.2.1:Int) by omega)];rfl
  ·obtain⟨hp0,ZQ⟩:=hp
   obtain⟨i,rfl⟩:∃ i:Nat,p=(i:Int):=⟨p.toNat,by omega⟩
   have e2:(decide (0≤(i:Int))&&decide ((i:Int)<c.2.2.1.length))=true:=by simp only[Bool.and_eq_true,decide_eq_true_eq];omega
   rw[decide_eq_false (show ¬(i:Int)<0 by omega),decide_eq_false (show ¬(i:Int)≥(List.length c.2.2.1:Int) by omega),e2]
   simp only[cond_false,Bool.true_and,Int.toNat_natCast]
   rw[ak (show i<c.2.2.2.2.1.length by omega),ak (show i<c.2.2.2.1.length by omega),JG]
   simp only[cond_true]
   show(bif !gC (List.getD c.2.2.2.2.1 i gQ) then kf c false else _)=_
   cases gC (List.getD c.2.2.2.2.1 i gQ) with
   |false=>rfl
   |true=>
    simp only[Bool.not_true,cond_false,Bool.true_and]
    show(bif !bM (ra c (i:Int) f s) then kf c false else _)=_
    cases bM (ra c (i:Int) f s) with
    |false=>rfl
    |true=>exact tL (out:=oP c (i:Int) f s) h (N0 h _ _ _) rfl hN hl
end Go.Pv.R
namespace Go.Pv
set_option linter.unusedVariables false
set_option linter.unusedSimpArgs false
abbrev qF (l:List Int):Prop:=l.Pairwise (· < ·)
theorem tM:∀ {a b:List Int},qF a→qF b→(∀ x,x∈a↔x∈b)→a=b
 |[],[],_,_,_=>rfl
 |[],y::b,_,_,h=>by have:=(h y).2 (by simp);simp at this
 |x::a,[],_,_,h=>by have:=(h x).1 (by simp);simp at this
 |x::a,y::b,ha,hb,h=>by
  rw[qF,List.pairwise_cons] at ha hb
  have zL:x=y:=by
   have h1:=(h x).1 (by simp)
   have h2:=(h y).2 (by simp)
   rcases List.mem_cons.1 h1 with h1 |h1
   ·exact h1
   ·rcases List.mem_cons.1 h2 with h2 |h2
    ·exact h2.symm
    ·have:=hb.1 x h1
     have:=ha.1 y h2
     omega
  subst zL
  congr 1
  refine tM ha.2 hb.2 fun z=>?_
  constructor
  ·intro hz
   rcases List.mem_cons.1 ((h z).1 (by simp[hz])) with e |e
   ·subst e;have:=ha.1 z hz;omega
   ·exact e
  ·intro hz
   rcases List.mem_cons.1 ((h z).2 (by simp[hz])) with e |e
   ·subst e;have:=hb.1 z hz;omega
   ·exact e
def jJ:List Int→Int→List Int
 |[],n=>[n]
 |x::r,n=>bif decide (x<n) then x::jJ r n else bif x==n then x::r else n::x::r
theorem jK:∀ (l:List Int) (n x:Int),x∈jJ l n↔x=n∨x∈l
 |[],n,x=>by simp[jJ]
 |y::r,n,x=>by
  simp only[jJ]
  by_cases h:y<n
  ·rw[decide_eq_true h,cond_true,List.mem_cons,jK r n x,List.mem_cons]
   constructor
   ·rintro(h |h |h)<;>simp[h]
   ·rintro(h |h |h)<;>simp[h]
  ·rw[decide_eq_false h,cond_false]
   by_cases e:y=n
   ·subst e;simp
   ·rw[beq_eq_false_iff_ne.2 e,cond_false];simp
theorem il:∀ {l:List Int} {n:Int},qF l→qF (jJ l n)
 |[],n,_=>by simp[jJ,qF]
 |y::r,n,h=>by
  rw[qF,List.pairwise_cons] at h
  simp only[jJ]
  by_cases hy:y<n
  ·rw[decide_eq_true hy,cond_true,qF,List.pairwise_cons]
   refine⟨fun z hz=>?_,il h.2⟩
   rcases(jK r n z).1 hz with e |e
   ·omega
   ·exact h.1 z e
  ·rw[decide_eq_false hy,cond_false]
   by_cases e:y=n
   ·subst e
    simp only[beq_self_eq_true,cond_true,qF,List.pairwise_cons]
    exact h
   ·rw[beq_eq_false_iff_ne.2 e,cond_false,qF,List.pairwise_cons,List.pairwise_cons]
    refine⟨fun z hz=>?_,h⟩
    rcases List.mem_cons.1 hz with e2 |e2
    ·omega
    ·have:=h.1 z e2;omega
theorem oQ:∀ (l:List Int) (n:Int),(jJ l n).length≤l.length+1
 |[],n=>by simp[jJ]
 |y::r,n=>by
  simp only[jJ]
  have:=oQ r n
  cases decide (y<n) with
  |true=>simp only[cond_true,List.length_cons];omega
  |false=>cases y==n<;>simp
theorem AH (l:List Int) (x:Int):x∈kV l↔x∈l:=List.mem_mergeSort
theorem FE (l:List Int):(kV l).Pairwise (·≤·):=by
 have:=List.pairwise_mergeSort (le:=fun x y:Int=>decide (x≤y)) (fun a b c=>by simp only[decide_eq_true_eq];omega) (fun a b=>by simp only[Bool.or_eq_true,decide_eq_true_eq];omega) l
 exact this.imp fun {a b} h=>by simpa using h
theorem ko:∀ (r:List Int) (x:Int),(x::r).Pairwise (·≤·)→qF (x::cW x r)∧∀ z,z∈x::cW x r↔z∈x::r
 |[],x,_=>by simp[cW,qF]
 |y::r,x,h=>by
  rw[List.pairwise_cons] at h
  simp only[cW]
  by_cases e:y=x
  ·subst e
   simp only[beq_self_eq_true,cond_true]
   obtain⟨h1,h2⟩:=ko r y h.2
   refine⟨h1,fun z=>(h2 z).trans ?_⟩
   simp
  ·rw[beq_eq_false_iff_ne.2 e,cond_false]
   obtain⟨h1,h2⟩:=ko r y h.2
   have cf:x<y:=by have:=h.1 y (by simp);omega
   refine⟨?_,fun z=>?_⟩
   ·rw[qF,List.pairwise_cons]
    refine⟨fun z hz=>?_,h1⟩
    have h3:qF (y::cW y r):=h1
    rw[qF,List.pairwise_cons] at h3
    rcases List.mem_cons.1 hz with e2 |e2
    ·omega
    ·have:=h3.1 z e2;omega
   ·rw[List.mem_cons,h2 z]
    simp only[List.mem_cons]
theorem uE (l:List Int) (h:l.Pairwise (·≤·)):qF (dt l)∧∀ z,z∈dt l↔z∈l:=by
 cases l with
 |nil=>simp[dt,qF]
 |cons x r=>exact ko r x h
theorem ZR {l:List Int} (h:l.Pairwise (·≤·)) (hn:l.Nodup):qF l:=by
 rw[List.Nodup] at hn
 exact(h.and hn).imp fun {a b} ⟨h1,h2⟩=>by omega
theorem N1 {l:List Int} (h:l.Nodup):(kV l).Nodup:=(List.mergeSort_perm l _).nodup_iff.2 h
end Go.Pv
namespace Go.Pv.R
set_option linter.unusedVariables false
set_option linter.unusedSimpArgs false
theorem mg {α:Type} {body:Nat→α→List Int→(List Int→Option aa)→Option aa} {cz:List Int→Option aa} {g:List Int→α→List Int} {l:List α}
  (hb:∀ (i:Nat) (x:α) (s:List Int) (next:List Int→Option aa) (h:i<l.length),l[i]=x→s.length≤i→body i x s next=next (g s x)) (hg:∀ s x,(g s x).length≤s.length+1):
  ∀ (r:List α) (i:Nat) (s:List Int),l.drop i=r→s.length≤i→bI body cz r i s=cz (r.foldl g s)
 |[],i,s,_,_=>rfl
 |x::r,i,s,hd,hs=>by
  have cf:i<l.length:=by have:=congrArg List.length hd;simp at this;omega
  rw[List.drop_eq_getElem_cons cf] at hd
  injection hd with h1 h2
  simp only[bI,List.foldl_cons]
  rw[hb i x s _ cf h1 hs]
  exact mg hb hg r (i+1) (g s x) h2 (by have:=hg s x;omega)
def fP:List Int→Int→Nat
 |[],_=>0
 |x::r,n=>bif decide (x<n) then fP r n+1 else 0
theorem VQ:∀ (l:List Int) (n:Int),fP l n≤l.length
 |[],_=>Nat.le_refl _
 |x::r,n=>by
  simp only[fP]
  have:=VQ r n
  cases decide (x<n)<;>simp<;>omega
theorem N3:∀ (l:List Int) (n:Int),jJ l n=bif decide (fP l n<l.length)&&(l.getD (fP l n) 0==n) then l else l.take (fP l n)++[n]++l.drop (fP l n)
 |[],n=>rfl
 |x::r,n=>by
  by_cases h:x<n
  ·have hc:fP (x::r) n=fP r n+1:=by simp only[fP];rw[decide_eq_true h];rfl
   have hp:jJ (x::r) n=x::jJ r n:=by simp only[jJ];rw[decide_eq_true h];rfl
   rw[hc,hp,N3 r n]
   simp only[List.length_cons,List.getD_cons_succ,List.take_succ_cons,List.drop_succ_cons]
   rw[show decide (fP r n+1<r.length+1)=decide (fP r n<r.length) from decide_eq_decide.2 (by omega)]
   cases (decide (fP r n<r.length)&&(r.getD (fP r n) 0==n))<;>simp
  ·have hc:fP (x::r) n=0:=by simp only[fP];rw[decide_eq_false h];rfl
   have hp:jJ (x::r) n=bif x==n then x::r else n::x::r:=by simp only[jJ];rw[decide_eq_false h];rfl
   rw[hc,hp]
   simp only[List.length_cons,List.getD_cons_zero,List.take_zero,List.drop_zero]
   rw[decide_eq_true (show 0<r.length+1 by omega),Bool.true_and]
   cases x==n<;>simp
theorem VR {n:Int} {k:Int→Option aa}:∀ (r:List Int) (i m:Nat),i+r.length=m→mf (fun(i:Nat) (x:Int) (next:Option aa)=>bif (decide (x<n)) then next else k (i:Int)) (k (m:Int)) r i=k ((i+fP r n:Nat):Int)
 |[],i,m,h=>by simp only[mf,fP];rw[←h];rfl
 |x::r,i,m,h=>by
  simp only[mf,fP]
  cases decide (x<n) with
  |true=>
   simp only[cond_true]
   rw[VR r (i+1) m (by simp only[List.length_cons] at h;omega)]
   congr 1
   omega
  |false=>simp only[cond_false,Nat.add_zero]
theorem JL {N:Nat} {l:List Int} {n:Int} {kf:List Int→Option aa} (hl:l.length≤1048576) (hN:l.length<N):sD N l n kf=kf (jJ l n):=by
 have hm:=au
 unfold sD
 rw[ZJ (by omega) hN]
 have hc:=VQ l n
 have h2:(decide ((List.length ([]:List Int)+List.length l)*1≤4398046511104))=true:=decide_eq_true (by simp only[List.length_nil];omega)
 have hj:tE l n kf (fP l n:Int)=kf (l.take (fP l n)++[n]++l.drop (fP l n)):=by
  unfold tE
  have d1:(decide ((0:Int)≤(0:Int))&&decide ((0:Int)≤(fP l n:Int))&&decide ((fP l n:Int)≤(List.length l:Int)))=true:=by simp;omega
  have d2:(decide ((0:Int)≤(fP l n:Int))&&decide ((fP l n:Int)≤(List.length l:Int))&&decide ((List.length l:Int)≤(List.length l:Int)))=true:=by simp;omega
  rw[d1,d2]
  have e1:List.drop (Int.toNat 0) (List.take (Int.toNat (fP l n:Int)) l)=l.take (fP l n):=by simp
  have e2:List.drop (Int.toNat (fP l n:Int)) (List.take (Int.toNat (List.length l:Int)) l)=l.drop (fP l n):=by simp
  rw[e1,e2]
  have l1:(l.take (fP l n)).length=fP l n:=by rw[List.length_take];omega
  have l2:(l.drop (fP l n)).length=l.length - fP l n:=List.length_drop
  rw[decide_eq_true (by simp only[List.length_nil];omega),decide_eq_true (by simp only[List.length_append,List.length_cons,List.length_nil];omega),decide_eq_true (by simp only[List.length_append,List.length_cons,List.length_nil];omega)]
  simp only[cond_true,List.nil_append]
 have:=VR (n:=n) (k:=fun(mJ:Int)=>
  bif (decide (mJ<(List.length l:Int))) then
   bif (aQ mJ (List.length l)) then
    bif ((List.getD l (Int.toNat mJ) (0:Int))==n) then
     bif (decide ((List.length ([]:(List Int))+List.length l)*1≤4398046511104)) then
      kf (([]:(List Int))++l)
     else none
    else
     tE l n kf mJ
   else none
  else
   tE l n kf mJ) l 0 l.length (by omega)
 refine this.trans ?_
 simp only[Nat.zero_add]
 rw[hj,N3]
 by_cases cf:fP l n<l.length
 ·rw[decide_eq_true (show(fP l n:Int)<(List.length l:Int) by omega),decide_eq_true cf,ak cf,Int.toNat_natCast,h2]
  simp only[cond_true,Bool.true_and,List.nil_append]
  cases List.getD l (fP l n) 0==n<;>rfl
 ·rw[decide_eq_false (show ¬(fP l n:Int)<(List.length l:Int) by omega),decide_eq_false cf]
  rfl
def im (l:List Int) (n:Int):List Int:=l.filter fun x=>x != n
theorem foldl_filter {α:Type} (p:α→Bool):∀ (l s:List α),l.foldl (fun s x=>bif p x then s++[x] else s) s=s++l.filter p
 |[],s=>by simp
 |x::r,s=>by
  simp only[List.foldl_cons,List.filter_cons]
  cases h:p x with
  |true=>simp only[cond_true,if_true];rw[foldl_filter p r];simp
  |false=>simp only[cond_false];rw[foldl_filter p r];simp
theorem xQ (n:Int) (s:List Int) (x:Int):(bif x != n then s++[x] else s).length≤s.length+1:=by cases x != n<;>simp
theorem ajE {N:Nat} {l:List Int} {n:Int} {kf:List Int→Option aa} (hl:l.length≤1048576) (hN:l.length<N):adf N l n kf=kf (im l n):=by
 have hm:=au
 unfold adf
 rw[ZN (by omega) hN,mg (l:=l) (g:=fun s x=>bif x != n then s++[x] else s) (fun i x s next h e hs=>?_) (xQ n) l 0 [] rfl (by simp),foldl_filter,List.nil_append]
 ·rfl
 ·rw[decide_eq_true (by simp only[List.length_cons,List.length_nil];omega)]
  cases x != n<;>rfl
theorem ajF {N:Nat} {l:List Int} {n:Int} {kf:List Int→Option aa} (hl:l.length≤1048576) (hN:l.length<N):ac' N l n kf=kf (im l n):=by
 have hm:=au
 unfold ac'
 rw[ZM (by omega) hN,mg (l:=l) (g:=fun s x=>bif x != n then s++[x] else s) (fun i x s next h e hs=>?_) (xQ n) l 0 [] rfl (by simp),foldl_filter,List.nil_append]
 ·rfl
 ·rw[decide_eq_true (by simp only[List.length_cons,List.length_nil];omega)]
  cases x != n<;>rfl
theorem JM {N:Nat} {l:List Int} {kf:List Int→Option aa} (hl:l.length≤1048576):NL N l kf=kf (kV l):=by
 unfold NL
 have:Nat.blt (List.length l) 4611686018427387904=true:=Nat.ble_eq_true_of_le (by omega)
 rw[this]
 rfl
theorem VS {N:Nat} {l:List Int} {kf:List Int→Option aa}:Y4 N l kf=kf (dt l):=rfl
def gI (s:List Int) (x:QL):List Int:=bif x.2.1==2 then jJ s x.2.2.1 else s
def addLine (s:List Int) (x:QL):List Int:=bif x.2.1==2 then s++[x.2.2.1] else s
def fg (l:List QL):List Int:=bif bW l then l.foldl gI [] else []
theorem xR:∀ (l:List QL) (s t:List Int),qF s→(∀ x,x∈s↔x∈t)→qF (l.foldl gI s)∧∀ x,x∈l.foldl gI s↔x∈l.foldl addLine t
 |[],s,t,h1,h2=>⟨h1,h2⟩
 |y::r,s,t,h1,h2=>by
  simp only[List.foldl_cons]
  refine xR r _ _ ?_ fun x=>?_
  ·unfold gI
   cases y.2.1==2 with
   |true=>exact il h1
   |false=>exact h1
  ·unfold gI addLine
   cases y.2.1==2 with
   |true=>
    simp only[cond_true]
    rw[jK,h2 x,List.mem_append,List.mem_singleton,or_comm]
   |false=>exact h2 x
theorem N4 (s:List Int) (x:QL):(gI s x).length≤s.length+1:=by
 unfold gI
 have:=oQ s x.2.2.1
 cases x.2.1==2 with
 |true=>exact this
 |false=>show s.length≤_;omega
theorem Cs (s:List Int) (x:QL):(addLine s x).length≤s.length+1:=by
 unfold addLine
 cases x.2.1==2<;>simp
theorem oS {α:Type} {g:List Int→α→List Int} (hg:∀ s x,(g s x).length≤s.length+1):∀ (l:List α) (s:List Int),(l.foldl g s).length≤s.length+l.length
 |[],s=>Nat.le_refl _
 |x::r,s=>by
  have h1:=oS hg r (g s x)
  have h2:=hg s x
  simp only[List.foldl_cons,List.length_cons]
  omega
theorem adO {N:Nat} {l:List QL} {kf:List Int→Option aa} (hl:l.length≤1048576) (hN:l.length<N) (h4:4<N):I51 N l kf=kf (fg l):=by
 have hm:=au
 unfold I51 fg
 rw[vH (by omega) hN h4]
 cases ha:bW l with
 |false=>rfl
 |true=>
  simp only[Bool.not_true,cond_false,cond_true]
  rw[adA (by omega) hN,mg (l:=l) (g:=addLine) (fun i x s next h e hs=>?_) Cs l 0 [] rfl (by simp)]
  ·have hlen:=oS Cs l []
   rw[JM (by simp only[List.length_nil] at hlen;omega),VS]
   congr 1
   obtain⟨h1,h2⟩:=xR l [] [] List.Pairwise.nil (fun x=>Iff.rfl)
   obtain⟨h3,h5⟩:=uE _ (FE (l.foldl addLine []))
   refine tM h3 h1 fun x=>?_
   rw[h5,AH,h2]
  ·unfold addLine
   rw[decide_eq_true (by simp only[List.length_cons,List.length_nil];omega)]
   cases x.2.1==2<;>rfl
theorem Hg (l:List QL):(fg l).length≤l.length:=by
 unfold fg
 have:=oS N4 l []
 cases bW l with
 |true=>simp only[List.length_nil] at this;simp only[cond_true];omega
 |false=>simp
def eE (s:List Int) (x:QL):List Int:=bif x.2.1==1 then jJ s x.2.2.1 else bif x.2.1==6 then im s x.2.2.1 else s
def lU (s:List Int) (x:QL):List Int:=bif x.2.1==6 then im s x.2.2.1 else bif x.2.1==1 then(bif jd s x.2.2.1 then s else s++[x.2.2.1]) else s
def eF (l:List QL):List Int:=bif bW l then l.foldl eE [] else []
theorem qG (l:List Int) (n x:Int):x∈im l n↔x∈l∧x≠n:=by
 unfold im
 rw[List.mem_filter]
 simp
theorem xS (l:List Int) (n:Int):(im l n).length≤l.length:=List.length_filter_le _ _
theorem N5 (l:List Int) (n:Int):jd l n=true↔n∈l:=by
 unfold jd
 simp
theorem uF:∀ (l:List QL) (s t:List Int),qF s→t.Nodup→(∀ x,x∈s↔x∈t)→qF (l.foldl eE s)∧(l.foldl lU t).Nodup∧∀ x,x∈l.foldl eE s↔x∈l.foldl lU t
 |[],s,t,h1,h2,h3=>⟨h1,h2,h3⟩
 |y::r,s,t,h1,h2,h3=>by
  simp only[List.foldl_cons]
  have key:qF (eE s y)∧(lU t y).Nodup∧∀ x,x∈eE s y↔x∈lU t y:=by
   unfold eE lU
   cases e1:y.2.1==1 with
   |true=>
    have e6:(y.2.1==6)=false:=by rw[eq_of_beq e1];rfl
    rw[e6]
    simp only[cond_true,cond_false]
    cases hh:jd t y.2.2.1 with
    |true=>
     have hm:=(N5 t _).1 hh
     refine⟨il h1,h2,fun x=>?_⟩
     simp only[cond_true]
     rw[jK,h3 x]
     exact⟨fun h=>h.elim (fun e=>by rw[e];exact hm) id,.inr⟩
    |false=>
     have hm:y.2.2.1∉t:=fun h=>by rw[(N5 t _).2 h] at hh;cases hh
     simp only[cond_false]
     refine⟨il h1,?_,fun x=>?_⟩
     ·rw[List.nodup_append]
      refine⟨h2,by simp,fun a ha b hb e=>?_⟩
      simp only[List.mem_singleton] at hb
      subst e hb
      exact hm ha
     ·rw[jK,h3 x,List.mem_append,List.mem_singleton,or_comm]
   |false=>
    simp only[cond_false]
    cases y.2.1==6 with
    |true=>
     simp only[cond_true]
     refine⟨List.Pairwise.filter _ h1,List.Pairwise.filter _ h2,fun x=>?_⟩
     rw[qG,qG,h3 x]
    |false=>exact⟨h1,h2,h3⟩
  exact uF r _ _ key.1 key.2.1 key.2.2
theorem Ct (s:List Int) (x:QL):(eE s x).length≤s.length+1:=by
 unfold eE
 have h1:=oQ s x.2.2.1
 have h2:=xS s x.2.2.1
 cases x.2.1==1 with
 |true=>exact h1
 |false=>
  cases x.2.1==6 with
  |true=>show(im s x.2.2.1).length≤_;omega
  |false=>show s.length≤_;omega
theorem Cu (s:List Int) (x:QL):(lU s x).length≤s.length+1:=by
 unfold lU
 have h2:=xS s x.2.2.1
 cases x.2.1==6 with
 |true=>show(im s x.2.2.1).length≤_;omega
 |false=>
  cases x.2.1==1 with
  |true=>cases jd s x.2.2.1<;>simp
  |false=>show s.length≤_;omega
theorem arA {N:Nat} {l:List QL} {kf:List Int→Option aa} (hl:l.length≤1048576) (hN:l.length<N) (h4:4<N):S58 N l kf=kf (eF l):=by
 have hm:=au
 unfold S58 eF
 rw[adG (by omega) hN]
 cases ha:bW l with
 |false=>
  cases l with
  |nil=>rfl
  |cons x r=>
   simp only[bI]
   rw[Dt (by omega) hN h4,ha]
   rfl
 |true=>
  rw[mg (l:=l) (g:=eE) (fun i x s next h e hs=>?_) Ct l 0 [] rfl (by simp)]
  ·rfl
  ·rw[Dt (by omega) hN h4,ha,cond_true]
   unfold eE
   cases x.2.1==1 with
   |true=>simp only[cond_true];rw[JL (by omega) (by omega)]
   |false=>
    simp only[cond_false]
    cases x.2.1==6 with
    |true=>simp only[cond_true];rw[ajE (by omega) (by omega)]
    |false=>rfl
theorem adP {N:Nat} {l:List QL} {kf:List Int→Option aa} (hl:l.length≤1048576) (hN:l.length<N) (h4:4<N):I54 N l kf=kf (eF l):=by
 have hm:=au
 unfold I54 eF
 rw[vH (by omega) hN h4]
 cases ha:bW l with
 |false=>rfl
 |true=>
  simp only[Bool.not_true,cond_false,cond_true]
  rw[adD (by omega) hN,mg (l:=l) (g:=lU) (fun i x s next h e hs=>?_) Cu l 0 [] rfl (by simp)]
  ·have hlen:=oS Cu l []
   rw[JM (by simp only[List.length_nil] at hlen;omega)]
   congr 1
   obtain⟨h1,h2,h3⟩:=uF l [] [] List.Pairwise.nil List.nodup_nil (fun x=>Iff.rfl)
   refine tM (ZR (FE _) (N1 h2)) h1 fun x=>?_
   rw[AH,h3]
  ·unfold lU
   cases x.2.1==6 with
   |true=>simp only[cond_true];rw[ajF (by omega) (by omega)]
   |false=>
    simp only[cond_false]
    cases x.2.1==1 with
    |true=>
     simp only[cond_true]
     rw[Fx (by omega) (by omega),decide_eq_true (by simp only[List.length_cons,List.length_nil];omega)]
     cases jd s x.2.2.1<;>rfl
    |false=>rfl
theorem JN (l:List QL):(eF l).length≤l.length:=by
 unfold eF
 have:=oS Ct l []
 cases bW l with
 |true=>simp only[List.length_nil] at this;simp only[cond_true];omega
 |false=>simp
end Go.Pv.R
namespace Go.Pv.R
set_option linter.unusedVariables false
set_option linter.unusedSimpArgs false
theorem oT {α:Type} (l:List α) (k:Nat):List.drop (Int.toNat 0) (List.take k l)=l.take k∧List.drop k (List.take (List.length l) l)=l.drop k:=by simp
def AI (c:aF) (l:List ar):aF:=(l,c.2)
def VT (c:aF) (k:Nat):aF:=AI c (c.1.take k++c.1.drop (k+1))
theorem xT {c:aF} {N:Nat} {l:List ar} (h:bh c N) (hl:l.length≤1048700) (hN:l.length<N) (hm:∀ x:ar,x∈l→x.met.length≤1048700∧x.met.length<N):bh (AI c l) N:=by
 have h0:=au
 exact⟨by show l.length≤_;omega,fun x hx=>⟨by have:=(hm x hx).1;omega,(hm x hx).2⟩,hN,h.jl,h.jm,h.jN,h.rl,h.rN,h.sl,h.sN,h.bl,h.bN,h.ml,h.mN,h.n8,hl,fun x hx=>(hm x hx).1,h.jb,h.jmb⟩
theorem N6 {c:aF} {N:Nat} (h:bh c N) (k:Nat):bh (VT c k) N:=by
 have h1:=h.tb
 have h2:=h.tN
 have hl:(c.1.take k++c.1.drop (k+1)).length≤c.1.length:=by rw[List.length_append,List.length_take,List.length_drop];omega
 refine xT h (by omega) (by omega) fun x hx=>?_
 have xf:x∈c.1:=by
  rcases List.mem_append.1 hx with hx |hx
  ·exact List.mem_of_mem_take hx
  ·exact List.mem_of_mem_drop hx
 exact⟨h.tmb x xf,(h.tm x xf).2⟩
def jL (c:aF) (id:Int):Bool:=decide (0≤aw c.1 id)&&(decide (c.2.2.1.length=0)&&decide ((c.1.getD (aw c.1 id).toNat aj).2.2.2.2.2.length=0))
def iO (c:aF) (id:Int):aF:=VT c (aw c.1 id).toNat
theorem ajG {N:Nat} {c:aF} {id:Int} {kf:aF→Bool→Option aa} (h:bh c N) (hN:200<N) (hl:c.2.2.2.2.2.1.length+1<N):
  ai' N c id kf=bif jL c id then kf (ff c (iO c id) 6 id) (dW c (iO c id) 6 id) else kf c false:=by
 have hm:=au
 have htb:=h.tb
 unfold ai'
 rw[qE h,jG h.tl h.tN]
 unfold S94 jL iO
 by_cases hf:aw c.1 id<0
 ·rw[decide_eq_true hf,decide_eq_false (show ¬ 0≤aw c.1 id by omega)]
  rfl
 ·obtain⟨k,hk,he,_⟩:=bB (p:=fun x:ar=>x.1==id) (l:=c.1) hf
  have he':aw c.1 id=(k:Int):=he
  rw[he',decide_eq_false (show ¬(k:Int)<0 by omega),decide_eq_true (show 0≤(k:Int) by omega)]
  simp only[cond_false,Bool.true_and,Int.toNat_natCast]
  by_cases hr:c.2.2.1.length=0
  rotate_left
  ·rw[decide_eq_true (show(List.length c.2.2.1:Int)>0 by omega),decide_eq_false hr]
   rfl
  ·rw[decide_eq_false (show ¬(List.length c.2.2.1:Int)>0 by omega),decide_eq_true hr,ak hk]
   simp only[cond_false,cond_true,Bool.true_and]
   by_cases adQ:(c.1.getD k aj).2.2.2.2.2.length=0
   rotate_left
   ·rw[decide_eq_true (show(List.length (c.1.getD k aj).2.2.2.2.2:Int)>0 by omega),decide_eq_false adQ]
    rfl
   ·rw[decide_eq_false (show ¬(List.length (c.1.getD k aj).2.2.2.2.2:Int)>0 by omega),decide_eq_true adQ,wrap64 (n:=(k:Int)+1) (by omega) (by omega)]
    have d1:(decide ((0:Int)≤(0:Int))&&true&&decide ((k:Int)≤(List.length c.1:Int)))=true:=by simp;omega
    have d2:(decide ((0:Int)≤(k:Int)+1)&&decide ((k:Int)+1≤(List.length c.1:Int))&&decide ((List.length c.1:Int)≤(List.length c.1:Int)))=true:=by simp;omega
    have e3:Int.toNat ((k:Int)+1)=k+1:=by omega
    rw[d1,d2,e3,(oT c.1 k).1,(oT c.1 (k+1)).2]
    simp only[cond_true,cond_false]
    have l1:(c.1.take k).length≤c.1.length:=by rw[List.length_take];omega
    have l2:(c.1.drop (k+1)).length≤c.1.length:=by rw[List.length_drop];omega
    rw[qD (by omega) (fun x hx=>h.tmb x (List.mem_of_mem_take hx)) (by have:=h.tN;omega),qD (by omega) (fun x hx=>h.tmb x (List.mem_of_mem_drop hx)) (by have:=h.tN;omega),decide_eq_true (by omega),cond_true]
    exact vJ (out:=VT c k) h (fun _=>N6 h k) hN hl
theorem arB {N:Nat} {c:aF} {id:Int} {kf:aF→Bool→Option aa} (h:bh c N) (hN:200<N) (hl:c.2.2.2.2.2.1.length+1<N):
  I38 N c id kf=bif jL c id then kf (ff c (iO c id) 6 id) (dW c (iO c id) 6 id) else kf c false:=by
 have hm:=au
 have htb:=h.tb
 unfold I38
 rw[mQ h,mL h.tl h.tN]
 unfold Vs jL iO
 by_cases hf:aw c.1 id<0
 ·rw[decide_eq_true hf,decide_eq_false (show ¬ 0≤aw c.1 id by omega)]
  rfl
 ·obtain⟨k,hk,he,_⟩:=bB (p:=fun x:ar=>x.1==id) (l:=c.1) hf
  have he':aw c.1 id=(k:Int):=he
  rw[he',decide_eq_false (show ¬(k:Int)<0 by omega),decide_eq_true (show 0≤(k:Int) by omega),Int.toNat_natCast,ak hk]
  simp only[cond_false,cond_true,Bool.true_and]
  by_cases adQ:(c.1.getD k aj).2.2.2.2.2.length=0
  rotate_left
  ·rw[decide_eq_true (show(List.length (c.1.getD k aj).2.2.2.2.2:Int)>0 by omega),decide_eq_false adQ,Bool.and_false]
   rfl
  ·rw[decide_eq_false (show ¬(List.length (c.1.getD k aj).2.2.2.2.2:Int)>0 by omega),decide_eq_true adQ]
   by_cases hr:c.2.2.1.length=0
   rotate_left
   ·rw[decide_eq_true (show(List.length c.2.2.1:Int)>0 by omega),decide_eq_false hr]
    rfl
   ·rw[decide_eq_false (show ¬(List.length c.2.2.1:Int)>0 by omega),decide_eq_true hr,wrap64 (n:=(k:Int)+1) (by omega) (by omega)]
    simp only[cond_false,Bool.and_true,cond_true]
    unfold aq'
    have d1:(decide ((0:Int)≤(k:Int))&&(decide ((k:Int)≤(k:Int)+1)&&decide ((k:Int)+1≤(List.length c.1:Int))))=true:=by simp;omega
    have e3:Int.toNat ((k:Int)+1)=k+1:=by omega
    rw[d1,e3,Int.toNat_natCast,cond_true]
    exact tL (out:=VT c k) h (N6 h k) rfl hN hl
end Go.Pv.R
namespace Go.Pv.R
set_option linter.unusedVariables false
set_option linter.unusedSimpArgs false
end Go.Pv.R
namespace Go.Pv.R
set_option linter.unusedVariables false
set_option linter.unusedSimpArgs false
theorem N7 {α:Type} {l:List α} {z:α} {g:α→Int} (h:∀ (i:Nat) (hi:i<l.length),0<i→g (l.getD (i - 1) z)<g l[i]):∀ (j i:Nat) (hi:i<l.length),j<i→g (l.getD j z)<g l[i]:=by
 intro j i
 induction i with
 |zero=>intro _ hj;omega
 |succ i ih=>
  intro hi hj
  have h1:=h (i+1) hi (by omega)
  rw[Nat.add_sub_cancel] at h1
  by_cases e:j=i
  ·subst e;exact h1
  ·have h2:=ih (by omega) (by omega)
   rw[ah _ _ (by omega)] at h1
   omega
theorem adR {α:Type} {xs:List α} {x z:α} {g:α→Int} {k:Nat} (hk:k≤xs.length) (hm:∀ (j i:Nat) (hi:i<(xs.take k++[x]++xs.drop k).length),j<i→g ((xs.take k++[x]++xs.drop k).getD j z)<g (xs.take k++[x]++xs.drop k)[i]):
  ∀ (i:Nat) (hi:i<xs.length),g xs[i]≠g x:=by
 intro i hi he
 have hl:(xs.take k++[x]++xs.drop k).length=xs.length+1:=by simp only[List.length_append,List.length_take,List.length_drop,List.length_cons,List.length_nil];omega
 have cf:(xs.take k).length=k:=by rw[List.length_take];omega
 have hkx:∀ (h:k<(xs.take k++[x]++xs.drop k).length),(xs.take k++[x]++xs.drop k)[k]=x:=fun h=>by
  rw[List.getElem_append_left (by rw[List.length_append,cf];simp),List.getElem_append_right (by omega)]
  simp[cf]
 by_cases hik:i<k
 ·have h1:=hm i k (by omega) hik
  rw[ah _ _ (by omega),hkx,List.getElem_append_left (by rw[List.length_append,cf];simp;omega),List.getElem_append_left (by omega),List.getElem_take] at h1
  omega
 ·have h1:=hm k (i+1) (by omega) (by omega)
  rw[ah _ _ (by omega),hkx,List.getElem_append_right (by rw[List.length_append,cf];simp;omega),List.getElem_drop] at h1
  have e2:k+(i+1 - (xs.take k++[x]).length)=i:=by rw[List.length_append,cf];simp;omega
  simp only[e2] at h1
  omega
theorem sK {α:Type} {p:α→Bool} {k:Int→Option aa}:∀ (r:List α) (i m:Nat),i+r.length=m→mf (fun(i:Nat) (x:α) (next:Option aa)=>bif p x then next else k (i:Int)) (k (m:Int)) r i=k ((i+(r.takeWhile p).length:Nat):Int)
 |[],i,m,h=>by
  simp only[List.length_nil,Nat.add_zero] at h
  subst h
  rfl
 |x::r,i,m,h=>by
  simp only[List.length_cons] at h
  simp only[mf,List.takeWhile_cons]
  cases hp:p x with
  |false=>rfl
  |true=>
   simp only[cond_true,if_true,List.length_cons]
   rw[sK r (i+1) m (by omega)]
   congr 2
   omega
theorem uG {α:Type} (p:α→Bool) (l:List α):(l.takeWhile p).length≤l.length:=(List.takeWhile_sublist p).length_le
theorem awd {α:Type} {xs:List α} {x:α} {k s:Nat} (hk:k≤xs.length) (hl:xs.length≤1048700) (hs:s≤8):(decide ((0:Int)≤(k:Int))&&(decide ((k:Int)≤(List.length xs:Int))&&(Nat.blt 0 (List.length [x])&&Nat.ble ((List.length xs+List.length [x])*s) 4398046511104)))=true:=by
 have h1:(List.length xs+List.length [x])*s≤1048701*8:=Nat.mul_le_mul (by simp;omega) hs
 rw[decide_eq_true (by omega),decide_eq_true (by omega)]
 simp only[Bool.true_and,Bool.and_eq_true]
 exact⟨rfl,by rw[Nat.ble_eq];omega⟩
def Sy (id cc:Int):ar:=(id,(cc,(0,(0,(0,[])))))
def lV (l:List ar) (id:Int):Nat:=(l.takeWhile fun x=>decide (x.1<id)).length
def jY (c:aF) (id cc:Int):aF:=AI c (c.1.take (lV c.1 id)++[Sy id cc]++c.1.drop (lV c.1 id))
theorem Dw (l:List ar) (id:Int):lV l id≤l.length:=uG _ _
theorem FF {α:Type} {xs:List α} {x y:α} {k:Nat} (h:y∈xs.take k++[x]++xs.drop k):y∈xs∨y=x:=by
 rcases List.mem_append.1 h with h |h
 ·rcases List.mem_append.1 h with h |h
  ·exact .inl (List.mem_of_mem_take h)
  ·exact .inr (List.mem_singleton.1 h)
 ·exact .inl (List.mem_of_mem_drop h)
theorem adS {α:Type} {xs:List α} {x:α} {k:Nat} (hk:k≤xs.length):(xs.take k++[x]++xs.drop k).length=xs.length+1:=by
 simp only[List.length_append,List.length_take,List.length_drop,List.length_cons,List.length_nil];omega
theorem N8 {c:aF} {N:Nat} {id cc:Int} (h:bh c N) (hb:c.1.length≤1048576) (hN:c.1.length+1<N):bh (jY c id cc) N:=by
 have hl:=adS (x:=Sy id cc) (Dw c.1 id)
 have h8:=h.n8
 refine xT h (by omega) (by omega) fun x hx=>?_
 rcases FF hx with hx |rfl
 ·exact⟨h.tmb x hx,(h.tm x hx).2⟩
 ·exact⟨by show(0:Nat)≤_;omega,by show(0:Nat)<_;omega⟩
theorem N9 {c:aF} {id cc:Int} (h:ay (jY c id cc).1=true):aw c.1 id<0:=by
 unfold ay at h
 simp only[Bool.and_eq_true] at h
 have hm:=qB h.2.1
 have nM:=adR (xs:=c.1) (x:=Sy id cc) (z:=aj) (g:=fun x:ar=>x.1) (Dw c.1 id) hm
 by_cases hf:aw c.1 id<0
 ·exact hf
 ·obtain⟨k,hk,_,h1,_⟩:=bB (p:=fun x:ar=>x.1==id) (l:=c.1) hf
  exact absurd (beq_iff_eq.1 h1) (nM k hk)
theorem ajH {c:aF} {id cc:Int} (hf: ¬aw c.1 id<0):dW c (jY c id cc) 1 id=false:=by
 cases hd:dW c (jY c id cc) 1 id with
 |false=>rfl
 |true=>
  unfold dW bG at hd
  simp only[Bool.and_eq_true] at hd
  exact absurd (N9 hd.2.2.1) hf
theorem Sz {N:Nat} {c z:aF} {id cc:Int} {k:Int→Option aa} (h:bh c N):nA id cc c z c N k (0:Int)=k ((lV c.1 id:Nat):Int):=by
 rw[ZK h.tl h.tN,sK c.1 0 c.1.length (by omega),Nat.zero_add]
 rfl
theorem ajI {N:Nat} {c:aF} {id cc:Int} {kf:aF→Bool→Option aa} (h:bh c N) (hb:c.1.length≤1048576) (hN1:c.1.length+1<N) (hN:200<N) (hl:c.2.2.2.2.2.1.length+1<N):
  ai5 N c id cc kf=bif decide (c.2.2.1.length=0) then kf (ff c (jY c id cc) 1 id) (dW c (jY c id cc) 1 id) else kf c false:=by
 have hm:=au
 have hk:=Dw c.1 id
 unfold ai5
 rw[qE h,Sz h]
 show(bif (decide ((0:Int)≤(0:Int))&&decide ((0:Int)≤((lV c.1 id:Nat):Int))&&decide (((lV c.1 id:Nat):Int)≤(List.length c.1:Int))) then _ else _)=_
 have d1:(decide ((0:Int)≤(0:Int))&&decide ((0:Int)≤((lV c.1 id:Nat):Int))&&decide (((lV c.1 id:Nat):Int)≤(List.length c.1:Int)))=true:=by simp;omega
 have d2:(decide ((0:Int)≤((lV c.1 id:Nat):Int))&&decide (((lV c.1 id:Nat):Int)≤(List.length c.1:Int))&&decide ((List.length c.1:Int)≤(List.length c.1:Int)))=true:=by simp;omega
 have l1:(c.1.take (lV c.1 id)).length≤c.1.length:=by rw[List.length_take];omega
 have l2:(c.1.drop (lV c.1 id)).length≤c.1.length:=by rw[List.length_drop];omega
 rw[d1,cond_true,Int.toNat_natCast,(oT c.1 (lV c.1 id)).1,qD (by omega) (fun x hx=>h.tmb x (List.mem_of_mem_take hx)) (by omega),decide_eq_true (by simp only[List.length_cons,List.length_nil];omega),cond_true]
 show(bif (decide ((0:Int)≤((lV c.1 id:Nat):Int))&&decide (((lV c.1 id:Nat):Int)≤(List.length c.1:Int))&&decide ((List.length c.1:Int)≤(List.length c.1:Int))) then _ else _)=_
 rw[d2,cond_true,Int.toNat_natCast]
 show Fb N (List.drop (lV c.1 id) (List.take (List.length c.1) c.1)) _=_
 rw[(oT c.1 (lV c.1 id)).2,qD (by omega) (fun x hx=>h.tmb x (List.mem_of_mem_drop hx)) (by omega),decide_eq_true (by simp only[List.length_append,List.length_cons,List.length_nil];omega),cond_true]
 unfold S94
 refine(vJ (out:=jY c id cc) h (fun _=>N8 h hb hN1) hN hl).trans ?_
 by_cases hr:c.2.2.1.length=0
 ·rw[decide_eq_true hr,decide_eq_false (show ¬(List.length c.2.2.1:Int)>0 by omega)];rfl
 ·rw[decide_eq_false hr,decide_eq_true (show(List.length c.2.2.1:Int)>0 by omega)];rfl
theorem ZS {N:Nat} {c z:aF} {id cc:Int} {k:Int→Option aa} (h:bh c N):sz id cc c z c N k (0:Int)=k ((lV c.1 id:Nat):Int):=by
 rw[adt h.tl h.tN,sK c.1 0 c.1.length (by omega),Nat.zero_add]
 rfl
theorem arC {N:Nat} {c:aF} {id cc:Int} {kf:aF→Bool→Option aa} (h:bh c N) (hb:c.1.length≤1048576) (hN1:c.1.length+1<N) (hN:200<N) (hl:c.2.2.2.2.2.1.length+1<N):
  I30 N c id cc kf=bif decide (c.2.2.1.length=0) then kf (ff c (jY c id cc) 1 id) (dW c (jY c id cc) 1 id) else kf c false:=by
 have hm:=au
 have hk:=Dw c.1 id
 unfold I30
 rw[mQ h,mL h.tl h.tN]
 by_cases hf:aw c.1 id<0
 rotate_left
 ·rw[decide_eq_true (show aw c.1 id≥0 by omega),cond_true]
  have hd:=ajH (cc:=cc) hf
  have hc:ff c (jY c id cc) 1 id=c:=by unfold ff;rw[hd];rfl
  rw[hd,hc]
  cases decide (c.2.2.1.length=0)<;>rfl
 ·rw[decide_eq_false (show ¬aw c.1 id≥0 by omega),cond_false]
  unfold Vs
  by_cases hr:c.2.2.1.length=0
  rotate_left
  ·rw[decide_eq_false hr,decide_eq_true (show(List.length c.2.2.1:Int)>0 by omega)];rfl
  ·rw[decide_eq_true hr,decide_eq_false (show ¬(List.length c.2.2.1:Int)>0 by omega)]
   simp only[cond_false,cond_true]
   rw[ZS h]
   show aiz N c.1 ((lV c.1 id:Nat):Int) [Sy id cc] _=_
   unfold aiz
   rw[awd hk (by omega) (by decide),cond_true,Int.toNat_natCast]
   exact tL (out:=jY c id cc) h (N8 h hb hN1) rfl hN hl
def FH (c:aF) (l:List aR):aF:=(c.1,(l,c.2.2))
theorem Hi {c:aF} {N:Nat} {l:List aR} (h:bh c N) (hl:l.length≤1048700) (hN:l.length<N) (hm:∀ x:aR,x∈l→x.2.2.length≤1048700∧x.2.2.length<N):bh (FH c l) N:=by
 have h0:=au
 exact⟨h.tl,h.tm,h.tN,by show l.length≤_;omega,fun x hx=>⟨by have:=(hm x hx).1;omega,(hm x hx).2⟩,hN,h.rl,h.rN,h.sl,h.sN,h.bl,h.bN,h.ml,h.mN,h.n8,h.tb,h.tmb,hl,fun x hx=>(hm x hx).1⟩
def adT (id cc:Int):aR:=(id,(cc,[]))
def oU (l:List aR) (id:Int):Nat:=(l.takeWhile fun x=>decide (x.1<id)).length
def kr (c:aF) (id cc:Int):aF:=FH c (c.2.1.take (oU c.2.1 id)++[adT id cc]++c.2.1.drop (oU c.2.1 id))
theorem Dx (l:List aR) (id:Int):oU l id≤l.length:=uG _ _
theorem Ih {c:aF} {N:Nat} {id cc:Int} (h:bh c N) (hb:c.2.1.length≤1048576) (hN:c.2.1.length+1<N):bh (kr c id cc) N:=by
 have hl:=adS (x:=adT id cc) (Dx c.2.1 id)
 have h8:=h.n8
 refine Hi h (by omega) (by omega) fun x hx=>?_
 rcases FF hx with hx |rfl
 ·exact⟨h.jmb x hx,(h.jm x hx).2⟩
 ·exact⟨by show(0:Nat)≤_;omega,by show(0:Nat)<_;omega⟩
theorem ZT {c:aF} {id cc:Int} (h:bw (kr c id cc).2.1=true):cw c.2.1 id<0:=by
 unfold bw at h
 simp only[Bool.and_eq_true] at h
 have hm:=N7 (l:=(kr c id cc).2.1) (z:=cg) (g:=fun x:aR=>x.1) (fun i hi h0=>by
  have h1:=(dN.1 h.2) i hi
  rw[Nat.zero_add] at h1
  unfold mO at h1
  simp only[Bool.and_eq_true,Bool.or_eq_true,decide_eq_true_eq] at h1
  exact h1.2.2.1.resolve_left (by omega))
 have nM:=adR (xs:=c.2.1) (x:=adT id cc) (z:=cg) (g:=fun x:aR=>x.1) (Dx c.2.1 id) hm
 by_cases hf:cw c.2.1 id<0
 ·exact hf
 ·obtain⟨k,hk,_,h1,_⟩:=bB (p:=fun x:aR=>x.1==id) (l:=c.2.1) hf
  exact absurd (beq_iff_eq.1 h1) (nM k hk)
theorem adU {c:aF} {id cc:Int} (hf: ¬cw c.2.1 id<0):dW c (kr c id cc) 2 id=false:=by
 cases hd:dW c (kr c id cc) 2 id with
 |false=>rfl
 |true=>
  unfold dW bG at hd
  simp only[Bool.and_eq_true] at hd
  exact absurd (ZT hd.2.2.2.1) hf
theorem SA {N:Nat} {c z:aF} {id cc:Int} {k:Int→Option aa} (h:bh c N):nB id cc c z c N k (0:Int)=k ((oU c.2.1 id:Nat):Int):=by
 rw[ZL h.jl h.jN,sK c.2.1 0 c.2.1.length (by omega),Nat.zero_add]
 rfl
theorem ajJ {N:Nat} {c:aF} {id cc:Int} {kf:aF→Bool→Option aa} (h:bh c N) (hb:c.2.1.length≤1048576) (hN1:c.2.1.length+1<N) (hN:200<N) (hl:c.2.2.2.2.2.1.length+1<N):
  ai6 N c id cc kf=kf (ff c (kr c id cc) 2 id) (dW c (kr c id cc) 2 id):=by
 have hm:=au
 have hk:=Dx c.2.1 id
 unfold ai6
 rw[qE h,SA h]
 show(bif (decide ((0:Int)≤(0:Int))&&decide ((0:Int)≤((oU c.2.1 id:Nat):Int))&&decide (((oU c.2.1 id:Nat):Int)≤(List.length c.2.1:Int))) then _ else _)=_
 have d1:(decide ((0:Int)≤(0:Int))&&decide ((0:Int)≤((oU c.2.1 id:Nat):Int))&&decide (((oU c.2.1 id:Nat):Int)≤(List.length c.2.1:Int)))=true:=by simp;omega
 have d2:(decide ((0:Int)≤((oU c.2.1 id:Nat):Int))&&decide (((oU c.2.1 id:Nat):Int)≤(List.length c.2.1:Int))&&decide ((List.length c.2.1:Int)≤(List.length c.2.1:Int)))=true:=by simp;omega
 have l1:(c.2.1.take (oU c.2.1 id)).length≤c.2.1.length:=by rw[List.length_take];omega
 have l2:(c.2.1.drop (oU c.2.1 id)).length≤c.2.1.length:=by rw[List.length_drop];omega
 rw[d1,cond_true,Int.toNat_natCast,(oT c.2.1 (oU c.2.1 id)).1,JJ (by omega) (fun x hx=>h.jmb x (List.mem_of_mem_take hx)) (by omega),decide_eq_true (by simp only[List.length_cons,List.length_nil];omega),cond_true]
 show(bif (decide ((0:Int)≤((oU c.2.1 id:Nat):Int))&&decide (((oU c.2.1 id:Nat):Int)≤(List.length c.2.1:Int))&&decide ((List.length c.2.1:Int)≤(List.length c.2.1:Int))) then _ else _)=_
 rw[d2,cond_true,Int.toNat_natCast]
 show R8 N (List.drop (oU c.2.1 id) (List.take (List.length c.2.1) c.2.1)) _=_
 rw[(oT c.2.1 (oU c.2.1 id)).2,JJ (by omega) (fun x hx=>h.jmb x (List.mem_of_mem_drop hx)) (by omega),decide_eq_true (by simp only[List.length_append,List.length_cons,List.length_nil];omega),cond_true]
 exact vJ (out:=kr c id cc) h (fun _=>Ih h hb hN1) hN hl
theorem ZU {N:Nat} {c z:aF} {id cc:Int} {k:Int→Option aa} (h:bh c N):sA id cc c z c N k (0:Int)=k ((oU c.2.1 id:Nat):Int):=by
 rw[adu h.jl h.jN,sK c.2.1 0 c.2.1.length (by omega),Nat.zero_add]
 rfl
theorem arD {N:Nat} {c:aF} {id cc:Int} {kf:aF→Bool→Option aa} (h:bh c N) (hb:c.2.1.length≤1048576) (hN1:c.2.1.length+1<N) (hN:200<N) (hl:c.2.2.2.2.2.1.length+1<N):
  I32 N c id cc kf=kf (ff c (kr c id cc) 2 id) (dW c (kr c id cc) 2 id):=by
 have hm:=au
 have hk:=Dx c.2.1 id
 unfold I32
 rw[mQ h,VL h.jl h.jN]
 by_cases hf:cw c.2.1 id<0
 rotate_left
 ·rw[decide_eq_true (show cw c.2.1 id≥0 by omega),cond_true]
  have hd:=adU (cc:=cc) hf
  have hc:ff c (kr c id cc) 2 id=c:=by unfold ff;rw[hd];rfl
  rw[hd,hc]
 ·rw[decide_eq_false (show ¬cw c.2.1 id≥0 by omega),cond_false,ZU h]
  show aiI N c.2.1 ((oU c.2.1 id:Nat):Int) [adT id cc] _=_
  unfold aiI
  rw[awd hk (by omega) (by decide),cond_true,Int.toNat_natCast]
  exact tL (out:=kr c id cc) h (Ih h hb hN1) rfl hN hl
end Go.Pv.R
namespace Go.Pv.R
set_option linter.unusedVariables false
set_option linter.unusedSimpArgs false
end Go.Pv.R
namespace Go.Pv.R
set_option linter.unusedVariables false
set_option linter.unusedSimpArgs false
end Go.Pv.R
namespace Go.Pv.R
set_option linter.unusedVariables false
set_option linter.unusedSimpArgs false
end Go.Pv.R
namespace Go.Pv.R
set_option linter.unusedVariables false
set_option linter.unusedSimpArgs false
end Go.Pv.R
namespace Go.Pv.R
set_option linter.unusedVariables false
set_option linter.unusedSimpArgs false
theorem JO {N:Nat} {a b:Int} {kf:Int→Option aa}:YY N a b kf=kf (bif decide (a<b) then -1 else bif decide (a>b) then 1 else 0):=by
 unfold YY aiM
 simp only[bne_self_eq_false,cond_false]
 cases decide (a<b)<;>cases decide (a>b)<;>rfl
end Go.Pv.R
namespace Go.Pv.R
set_option linter.unusedVariables false
set_option linter.unusedSimpArgs false
end Go.Pv.R
namespace Go.Pv.R
set_option linter.unusedVariables false
set_option linter.unusedSimpArgs false
end Go.Pv.R
namespace Go.Pv.R
set_option linter.unusedVariables false
set_option linter.unusedSimpArgs false
end Go.Pv.R
namespace Go.Pv.R
set_option linter.unusedVariables false
set_option linter.unusedSimpArgs false
def cS (a b:ar):Bool:=bif a.2.2.1 != b.2.2.1 then decide (a.2.2.1>b.2.2.1) else(bif decide (a.2.2.2.1>b.2.2.2.1) then true else(bif a.2.2.2.1==b.2.2.2.1 then decide (a.1<b.1) else false))
theorem VU {N:Nat} {a b:ar} {kf:Bool→Option aa}:acY N a b kf=kf (cS a b):=by
 unfold acY cS
 cases (a.2.2.1 != b.2.2.1) with
 |true=>rfl
 |false=>
  simp only[cond_false]
  cases decide (a.2.2.2.1>b.2.2.2.1) with
  |true=>rfl
  |false=>
   simp only[cond_false]
   cases (a.2.2.2.1==b.2.2.2.1)<;>rfl
theorem mR {a b:ar}:cS a b=true↔a.2.2.1>b.2.2.1∨(a.2.2.1=b.2.2.1∧(a.2.2.2.1>b.2.2.2.1∨(a.2.2.2.1=b.2.2.2.1∧a.1<b.1))):=by
 unfold cS
 by_cases h1:a.2.2.1=b.2.2.1
 ·have e1:(a.2.2.1 != b.2.2.1)=false:=by simp[h1]
  rw[e1,cond_false]
  by_cases h2:a.2.2.2.1>b.2.2.2.1
  ·rw[decide_eq_true h2];simp[h1,h2]
  ·rw[decide_eq_false h2,cond_false]
   by_cases h3:a.2.2.2.1=b.2.2.2.1
   ·have e3:(a.2.2.2.1==b.2.2.2.1)=true:=by simp[h3]
    rw[e3,cond_true];simp[h1,h3]
   ·have e3:(a.2.2.2.1==b.2.2.2.1)=false:=by simp[h3]
    rw[e3,cond_false];simp[h1,h2,h3]
 ·have e1:(a.2.2.1 != b.2.2.1)=true:=by simp[h1]
  rw[e1,cond_true]
  simp[h1]
def SB (a b:Int):Int:=bif decide (a<b) then -1 else bif decide (a>b) then 1 else 0
theorem ajK (a b:Int):SB a b=if a<b then -1 else if a>b then 1 else 0:=by
 unfold SB
 by_cases h1:a<b
 ·rw[decide_eq_true h1,if_pos h1];rfl
 ·rw[decide_eq_false h1,if_neg h1]
  by_cases h2:a>b
  ·rw[decide_eq_true h2,if_pos h2];rfl
  ·rw[decide_eq_false h2,if_neg h2];rfl
theorem ajL {N:Nat} {a b c:Int} {kf:Int→Option aa} (hN:3<N):aiN N [a,b,c] kf=kf (if a≠0 then a else if b≠0 then b else c):=by
 unfold aiN
 rw[Zk (by rw[au];simp) (by simpa using hN)]
 simp only[mf]
 by_cases h1:a=0
 ·subst h1
  have e1:(((0:Int) != (0:Int)))=false:=by simp
  rw[e1,cond_false]
  by_cases h2:b=0
  ·subst h2
   rw[e1,cond_false]
   by_cases h3:c=0
   ·subst h3;rw[e1,cond_false];simp
   ·have e3:(c != 0)=true:=by simp[h3]
    rw[e3,cond_true];simp
  ·have e2:(b != 0)=true:=by simp[h2]
   rw[e2,cond_true];simp[h2]
 ·have e2:(a != 0)=true:=by simp[h1]
  rw[e2,cond_true];simp[h1]
def arE (a b:ar):Int:=if SB b.2.2.1 a.2.2.1≠0 then SB b.2.2.1 a.2.2.1 else if SB b.2.2.2.1 a.2.2.2.1≠0 then SB b.2.2.2.1 a.2.2.2.1 else SB a.1 b.1
theorem ajM {N:Nat} {a b:ar} {kf:Int→Option aa} (hN:3<N):aiO N a b kf=kf (arE a b):=by
 unfold aiO
 rw[JO,JO,JO,ajL hN]
 rfl
theorem N' (a b:ar):decide (arE a b<0)=cS a b:=by
 rw[Bool.eq_iff_iff,mR,decide_eq_true_eq]
 unfold arE
 simp only[ajK]
 rcases Int.lt_trichotomy a.2.2.1 b.2.2.1 with h1 |h1 |h1
 ·have: ¬b.2.2.1<a.2.2.1:=by omega
  simp only[this,if_false,if_pos (show b.2.2.1>a.2.2.1 from h1)]
  simp;omega
 ·simp only[h1,Int.lt_irrefl,if_false,gt_iff_lt,ne_eq,not_true_eq_false]
  rcases Int.lt_trichotomy a.2.2.2.1 b.2.2.2.1 with h2 |h2 |h2
  ·have: ¬b.2.2.2.1<a.2.2.2.1:=by omega
   simp only[this,if_false,if_pos h2]
   simp;omega
  ·simp only[h2,Int.lt_irrefl,if_false,ne_eq,not_true_eq_false]
   by_cases h3:a.1<b.1
   ·simp[h3]
   ·simp only[h3,if_false]
    by_cases h4:b.1<a.1
    ·simp[h4]
    ·simp[h4]
  ·simp only[if_pos h2]
   simp[h2]
 ·simp only[if_pos (show b.2.2.1<a.2.2.1 from h1)]
  simp[h1]
def mS (x:ar) (s:List ar):Nat→Nat
 |0=>0
 |k+1=>bif cS x (s.getD k aj) then mS x s k else k+1
theorem Dy (x:ar) (s:List ar):∀ k,mS x s k≤k
 |0=>Nat.le_refl _
 |k+1=>by
  unfold mS
  cases cS x (s.getD k aj) with
  |true=>exact Nat.le_succ_of_le (Dy x s k)
  |false=>exact Nat.le_refl _
def sL (s:List ar) (x:ar):List ar:=s.take (mS x s s.length)++[x]++s.drop (mS x s s.length)
theorem xU (s:List ar) (x:ar):(sL s x).length=s.length+1:=by
 have:=Dy x s s.length
 simp[sL];omega
def mT (l:List ar):List ar:=l.foldl sL []
theorem Oa:∀ (l s:List ar),(l.foldl sL s).length=s.length+l.length
 |[],s=>by simp
 |x::l,s=>by simp only[List.foldl_cons,Oa l,xU,List.length_cons];omega
theorem tO (l:List ar):(mT l).length=l.length:=by simp[mT,Oa]
def mU (l:List ar):List Int:=bif ay l then(mT l).map (fun x:ar=>x.1) else []
theorem FJ {N:Nat} {l s:List ar} {i:Nat} (hi:i<l.length) (hl:l.length≤1048700) (hs:s.length≤1048700) {kk:Int→Option aa}:∀ (k n:Nat),k≤s.length→k<n→qh N l s (i:Int) n kk (k:Int)=kk ((mS l[i] s k:Nat):Int)
 |0,n+1,_,_=>by
  simp only[qh]
  rfl
 |k+1,n+1,hk,hn=>by
  have hm:=au
  have ew:IntKind.wrap .i64 (((k+1:Nat):Int) - 1)=((k:Nat):Int):=by
   have:=oM (i:=k+1) (m:=s.length+1) (by omega) (by omega) (by omega)
   simpa using this
  simp only[qh]
  rw[decide_eq_true (show((k+1:Nat):Int)>0 by omega),cond_true,ak hi,cond_true,ew,ak (show k<s.length by omega),cond_true,VU,Int.toNat_natCast,Int.toNat_natCast,ah l i hi]
  unfold mS
  cases cS l[i] (s.getD k aj) with
  |true=>simp only[cond_true];exact FJ hi hl hs k n (by omega) (by omega)
  |false=>rfl
theorem sM {α σ:Type} {body:Nat→α→σ→(σ→Option aa)→Option aa} {cz:σ→Option aa} {g:σ→α→σ} {Inv:Nat→σ→Prop} {l:List α}
  (hb:∀ (i:Nat) (s:σ) (next:σ→Option aa) (h:i<l.length),Inv i s→body i l[i] s next=next (g s l[i])∧Inv (i+1) (g s l[i])):∀ (r:List α) (i:Nat) (s:σ),l.drop i=r→Inv i s→bI body cz r i s=cz (r.foldl g s)
 |[],i,s,_,_=>rfl
 |x::r,i,s,hd,hs=>by
  have cf:i<l.length:=by have:=congrArg List.length hd;simp at this;omega
  rw[List.drop_eq_getElem_cons cf] at hd
  injection hd with h1 h2
  subst h1
  obtain⟨e1,e2⟩:=hb i s (fun s'=>bI body cz r (i+1) s') cf hs
  simp only[bI,List.foldl_cons]
  rw[e1]
  exact sM hb r (i+1) _ h2 e2
theorem Ob {l:List ar} {kf:List Int→Option aa} (hl:l.length≤1048700):bI (fun(i:Nat) (x:QT) (s:(List Int)) (next:(List Int)→Option aa)=>
    bif (decide ((List.length s+List.length [x.1])*1≤4398046511104)) then
     next (s++[x.1])
    else none) (fun(s:(List Int))=>kf s) l 0 []=kf (l.map fun x:ar=>x.1):=by
 rw[sM (l:=l) (g:=fun s (x:ar)=>s++[x.1]) (Inv:=fun i s=>s.length=i) (fun i s next h hs=>⟨by rw[decide_eq_true (by simp only[List.length_cons,List.length_nil];omega),cond_true],by simp[hs]⟩) l 0 [] rfl rfl]
 congr 1
 have:∀ (r:List ar) (s:List Int),r.foldl (fun s (x:ar)=>s++[x.1]) s=s++r.map fun x:ar=>x.1:=by
  intro r
  induction r with
  |nil=>intro s;simp
  |cons x r ih=>intro s;simp[ih]
 simpa using this l []
theorem ajN {N:Nat} {l:List ar} {kf:List Int→Option aa} (hl:l.length≤maxLen) (hm:∀ x∈l,x.met.length≤maxLen∧x.met.length<N) (hN:l.length+1<N):aiV N l kf=kf (mU l):=by
 have hx:=au
 unfold aiV mU
 rw[Zv hl (by omega)]
 have ha:∀ kf,uh N l kf=kf (ay l):=fun kf=>kJ hl hm (by omega)
 cases dx:ay l with
 |false=>
  have key:∀ (l2:List ar) (body:Nat→ar→List ar→(List ar→Option aa)→Option aa) (cz:List ar→Option aa),(∀ i x s next,body i x s next=cz s)→bI body cz l2 0 []=cz []:=by
   intro l2 body cz h
   cases l2 with
   |nil=>rfl
   |cons x r=>simp only[bI];exact h _ _ _ _
  rw[key _ _ _ (fun i x s next=>by rw[ha,dx];rfl)]
  rw[Fq (by simp) (by simp;omega)]
  rfl
 |true=>
  have h10:l.length≤10:=by
   unfold ay at dx
   simp only[Bool.and_eq_true,decide_eq_true_eq] at dx
   exact dx.1
  rw[sM (l:=l) (g:=sL) (Inv:=fun i s=>s.length=i∧i≤l.length) (fun i s next h hs=>⟨by
   obtain⟨h1,h2⟩:=hs
   have hp:=Dy l[i] s s.length
   rw[ha,dx]
   simp only[cond_true]
   rw[FJ h (by omega) (by omega) s.length N (Nat.le_refl _) (by omega)]
   have d1:(decide ((0:Int)≤(0:Int))&&decide ((0:Int)≤((mS l[i] s s.length:Nat):Int))&&decide (((mS l[i] s s.length:Nat):Int)≤(List.length s:Int)))=true:=by simp;omega
   have d2:(decide ((0:Int)≤((mS l[i] s s.length:Nat):Int))&&decide (((mS l[i] s s.length:Nat):Int)≤(List.length s:Int))&&decide ((List.length s:Int)≤(List.length s:Int)))=true:=by simp;omega
   rw[d1,cond_true,d2,cond_true,Int.toNat_natCast,Int.toNat_natCast,List.drop_zero,List.take_length,List.nil_append]
   have l1:(s.take (mS l[i] s s.length)).length≤s.length:=by rw[List.length_take];omega
   have l2:(s.drop (mS l[i] s s.length)).length≤s.length:=by rw[List.length_drop];omega
   rw[decide_eq_true (by simp only[List.length_nil];omega),cond_true,decide_eq_true (by simp only[List.length_cons,List.length_nil];omega),cond_true,decide_eq_true (by simp only[List.length_append,List.length_cons,List.length_nil];omega),cond_true]
   rfl,by rw[xU];omega,h⟩) l 0 [] rfl ⟨rfl,by omega⟩]
  have hlen:=tO l
  show k8 (mT l) N kf [] 0=_
  rw[Fq (by omega) (by omega)]
  exact Ob (by omega)
theorem ajO {α:Type} (P Q:List α) (y x:α) (z:α):List.set (List.set (P++(y::x::Q)) (P.length+1) y) P.length x=P++(x::y::Q):=by
 rw[List.set_append_right _ _ (by omega),List.set_append_right _ _ (by omega)]
 simp
def rA (s:List ar) (x:ar) (rest:List ar) (k:Nat):List ar:=s.take k++(x::(s.drop k++rest))
theorem adV {s rest:List ar} {x:ar} {k:Nat} (hk:k≤s.length):(rA s x rest k).length=s.length+1+rest.length:=by simp[rA];omega
theorem FK {N:Nat} {s rest:List ar} {x:ar} {b i:Int} {kk:List ar→Option aa} (hN:3<N) (hl:s.length+rest.length≤1048700):∀ (k n:Nat),k≤s.length→k<n→
  tx N (0:Int) b i n kk (rA s x rest k) (k:Int)=kk (rA s x rest (mS x s k))
 |0,n+1,_,_=>by
  simp only[tx]
  rfl
 |k+1,n+1,hk,hn=>by
  have hm:=au
  have ew:IntKind.wrap .i64 (((k+1:Nat):Int) - 1)=((k:Nat):Int):=by
   have:=oM (i:=k+1) (m:=s.length+1) (by omega) (by omega) (by omega)
   simpa using this
  have hlen:=adV (x:=x) (rest:=rest) hk
  have e1:s.take (k+1)=s.take k++[s[k]]:=by rw[List.take_succ_eq_append_getElem (by omega)]
  have e2:s.drop k=s[k]::s.drop (k+1):=by rw[List.drop_eq_getElem_cons (by omega)]
  have hP:(s.take k).length=k:=by rw[List.length_take];omega
  have em:rA s x rest (k+1)=s.take k++(s[k]::x::(s.drop (k+1)++rest)):=by unfold rA;rw[e1,List.append_assoc];rfl
  have en:rA s x rest k=s.take k++(x::s[k]::(s.drop (k+1)++rest)):=by unfold rA;rw[e2];rfl
  have g1:(rA s x rest (k+1)).getD (k+1) aj=x:=by rw[em,List.getD_eq_getElem?_getD,List.getElem?_append_right (by omega),hP];simp
  have g0:(rA s x rest (k+1)).getD k aj=s[k]:=by rw[em,List.getD_eq_getElem?_getD,List.getElem?_append_right (by omega),hP];simp
  simp only[tx]
  rw[decide_eq_true (show((k+1:Nat):Int)>0 by omega),cond_true,ak (show k+1<(rA s x rest (k+1)).length by omega),cond_true,ew,ak (show k<(rA s x rest (k+1)).length by omega),cond_true,Int.toNat_natCast,Int.toNat_natCast,g1,g0,ajM hN,N']
  have eb:cS x (s.getD k aj)=cS x s[k]:=by rw[ah s k (by omega)]
  unfold mS
  rw[eb]
  cases cS x s[k] with
  |true=>
   simp only[cond_true,share]
   rw[ak (show k<_ by rw[List.length_set];omega),cond_true]
   have es:List.set (List.set (rA s x rest (k+1)) (k+1) s[k]) k x=rA s x rest k:=by
    rw[em,en]
    have:=ajO (s.take k) (s.drop (k+1)++rest) s[k] x x
    rw[hP] at this
    exact this
   rw[es]
   exact FK hN hl k n (by omega) (by omega)
  |false=>rfl
theorem FL {N:Nat} {l:List ar} {kk:List ar→Option aa} (hN:3<N) (hl:l.length≤1048700) (hlN:l.length<N):∀ (r s:List ar) (n:Nat),s.length+r.length=l.length→r.length<n→
  p8 N (0:Int) (l.length:Int) n kk (s++r) (s.length:Int)=kk (r.foldl sL s)
 |[],s,n+1,hs,_=>by
  simp only[p8]
  rw[decide_eq_false (show ¬(s.length:Int)<(l.length:Int) by simp at hs;omega)]
  simp
 |x::r,s,n+1,hs,hn=>by
  have hm:=au
  simp only[List.length_cons] at hs hn
  simp only[p8]
  rw[decide_eq_true (show(s.length:Int)<(l.length:Int) by omega),cond_true]
  have e0:s++x::r=rA s x r s.length:=by simp[rA]
  rw[e0,FK hN (by omega) s.length N (Nat.le_refl _) (by omega)]
  have e1:rA s x r (mS x s s.length)=sL s x++r:=by simp[rA,sL]
  have e2:IntKind.wrap .i64 ((s.length:Int)+1)=((sL s x).length:Int):=by
   rw[xU]
   exact fU (i:=s.length) (m:=l.length) (by omega) (by omega)
  rw[e1,e2,FL hN hl hlN r (sL s x) n (by rw[xU];omega) (by omega)]
  rfl
theorem Oc {N:Nat} {n:Nat} {kf:Int→Option aa} (h:n<256):∃ r,aiL N (n:Int) kf=kf r:=by
 unfold aiL aq2
 rw[decide_eq_false (by omega),cond_false]
 unfold Jn
 rw[decide_eq_false (by omega),cond_false]
 unfold Jm
 rw[decide_eq_false (by omega),cond_false]
 unfold Jl
 have e:IntKind.wrap .u8 (n:Int)=(n:Int):=by simp[IntKind.wrap,IntKind.bits,IntKind.signed];omega
 rw[e,ak (m:=ByteArray.size _) (by
  have:ByteArray.size aL=256:=by decide+kernel
  rw[this];exact h),cond_true]
 exact⟨_,rfl⟩
end Go.Pv.R
namespace Go.Pv.R
set_option linter.unusedVariables false
set_option linter.unusedSimpArgs false
theorem vK {N:Nat} {l:List ar} {kf:List ar→Option aa} (hl:l.length≤12) (hN:20<N):aiQ N l kf=kf (mT l):=by
 have hm:=au
 unfold aiQ
 have ew:IntKind.wrap .u64 (List.length l:Int)=(l.length:Int):=by simp[IntKind.wrap,IntKind.bits,IntKind.signed];omega
 rw[ew]
 obtain⟨r,hr⟩:=Oc (N:=N) (n:=l.length) (kf:=fun(cu:Int)=>aiP N l (0:Int) (List.length l:Int) cu kf) (by omega)
 rw[hr]
 unfold aiP
 obtain⟨n,rfl⟩:∃ n,N=n+1:=⟨N - 1,by omega⟩
 simp only[Jq]
 rw[wrap64 (n:=(List.length l:Int) - 0) (by omega) (by omega),decide_eq_true (by omega),cond_true]
 unfold aq4
 cases l with
 |nil=>
  have e:IntKind.wrap .i64 ((0:Int)+1)=1:=by decide
  rw[e]
  simp only[p8]
  rfl
 |cons x r=>
  have e:IntKind.wrap .i64 ((0:Int)+1)=(([x]:List ar).length:Int):=by
   show IntKind.wrap .i64 ((0:Int)+1)=((1:Nat):Int)
   decide
  rw[e]
  have:=FL (N:=n+1) (l:=x::r) (kk:=kf) (by omega) (by omega) (by omega) r [x] (n+1) (by simp;omega) (by simp at hl;omega)
  simp only[List.singleton_append] at this
  rw[this]
  rfl
theorem ajP {N:Nat} {l:List ar} {kf:List ar→Option aa} (hl:l.length≤1048576):aiK N l kf=kf l:=oO (decide_eq_true (by simp only[List.length_nil];omega))
theorem VV {N:Nat} {l:List ar} {kf:List Int→Option aa} (hl:l.length≤maxLen) (hm:∀ x∈l,x.met.length≤maxLen∧x.met.length<N) (hN:l.length<N) (Co:20<N):acJ N l kf=kf (mU l):=by
 have hx:=au
 unfold acJ mU
 rw[lS hl hm hN]
 cases dx:ay l with
 |false=>rfl
 |true=>
  have h10:l.length≤10:=by
   unfold ay at dx
   simp only[Bool.and_eq_true,decide_eq_true_eq] at dx
   exact dx.1
  have hlen:=tO l
  simp only[Bool.not_true,cond_false,cond_true]
  rw[ajP (by omega),vK (by omega) Co,Zl (by omega) (by omega)]
  exact Ob (by omega)
def QO (a b:ar):Prop:=cS b a=false
theorem VW {a b:ar}:QO a b↔ ¬(b.2.2.1>a.2.2.1∨(b.2.2.1=a.2.2.1∧(b.2.2.2.1>a.2.2.2.1∨(b.2.2.2.1=a.2.2.2.1∧b.1<a.1)))):=by
 unfold QO
 rw[←mR,Bool.not_eq_true]
theorem ZV {a b c:ar} (h1:QO a b) (h2:QO b c):QO a c:=by
 rw[VW] at*
 omega
theorem SC {a b:ar} (h:cS a b=true):QO a b:=by
 rw[VW]
 rw[mR] at h
 omega
theorem SD {a b:ar} (h:a.1≠b.1) (hb:cS a b=false):cS b a=true:=by
 rw[mR]
 rw[←Bool.not_eq_true,mR] at hb
 omega
theorem VX (x:ar) (s:List ar):∀ k i,mS x s k≤i→i<k→cS x (s.getD i aj)=true
 |0,i,_,h=>by omega
 |k+1,i,h1,h2=>by
  unfold mS at h1
  cases hb:cS x (s.getD k aj) with
  |true=>
   rw[hb,cond_true] at h1
   rcases Nat.lt_or_eq_of_le (Nat.le_of_lt_succ h2) with h3 |rfl
   ·exact VX x s k i h1 h3
   ·exact hb
  |false=>
   rw[hb,cond_false] at h1
   omega
theorem VY (x:ar) (s:List ar):∀ k,0<mS x s k→QO (s.getD (mS x s k - 1) aj) x
 |0,h=>by simp[mS] at h
 |k+1,h=>by
  unfold mS at h ⊢
  cases hb:cS x (s.getD k aj) with
  |true=>rw[hb,cond_true] at h;exact VY x s k h
  |false=>exact hb
theorem ZW (s:List ar) (x:ar):(sL s x).Perm (x::s):=by
 unfold sL
 refine(List.perm_append_comm.append_right _).trans ?_
 rw[List.append_assoc,List.take_append_drop]
 exact List.Perm.refl _
theorem Ii:∀ (l s:List ar),(l.foldl sL s).Perm (l++s)
 |[],s=>List.Perm.refl _
 |x::l,s=>by
  refine(Ii l (sL s x)).trans ?_
  refine((ZW s x).append_left l).trans ?_
  exact List.perm_middle
theorem Ij {l:List ar} {x:ar}:x∈mT l↔x∈l:=by
 have:=(Ii l []).mem_iff (a:=x)
 rw[List.append_nil] at this
 exact this
theorem Od {s:List ar} {x:ar} (h:s.Pairwise QO):(sL s x).Pairwise QO:=by
 have hp:=Dy x s s.length
 have Yn:=VY x s s.length
 have D5:=VX x s s.length
 unfold sL
 generalize mS x s s.length=p at*
 have h0:=h
 rw[←List.take_append_drop p s,List.pairwise_append] at h
 obtain⟨h1,h2,h3⟩:=h
 rw[List.append_assoc,List.pairwise_append]
 have hb:∀ y∈s.drop p,QO x y:=fun y hy=>by
  obtain⟨j,hj,rfl⟩:=List.mem_iff_getElem.1 hy
  rw[List.length_drop] at hj
  have:=D5 (p+j) (by omega) (by omega)
  rw[ah _ _ (by omega)] at this
  rw[List.getElem_drop]
  exact SC this
 have ha:∀ y∈s.take p,QO y x:=fun y hy=>by
  obtain⟨j,hj,rfl⟩:=List.mem_iff_getElem.1 hy
  rw[List.length_take] at hj
  have:=Yn (by omega)
  rw[ah _ _ (by omega)] at this
  rw[List.getElem_take]
  by_cases hjp:j=p - 1
  ·subst hjp;exact this
  ·exact ZV (List.pairwise_iff_getElem.1 h0 j (p - 1) (by omega) (by omega) (by omega)) this
 refine⟨h1,?_,?_⟩
 ·rw[List.singleton_append,List.pairwise_cons]
  exact⟨hb,h2⟩
 ·intro a hA b hB
  rw[List.singleton_append,List.mem_cons] at hB
  rcases hB with rfl |hB
  ·exact ha a hA
  ·exact h3 a hA b hB
theorem JP (l:List ar):(mT l).Pairwise QO:=by
 have:∀ (l s:List ar),s.Pairwise QO→(l.foldl sL s).Pairwise QO:=by
  intro l
  induction l with
  |nil=>exact fun s h=>h
  |cons x l ih=>exact fun s h=>ih _ (Od h)
 exact this l [] List.Pairwise.nil
def dh (t:List ar) (id:Int):ar:=t.getD (aw t id).toNat aj
def Oe (t:List ar) (a b:Int):bY:=bif ay t&&(decide (aw t a≥0)&&(decide (aw t b≥0)&&(aw t a != aw t b))) then
  (bif decide ((dh t b).2.2.2.2.1<(dh t a).2.2.2.2.1) then(b,a) else bif (dh t b).2.2.2.2.1==(dh t a).2.2.2.2.1 then(bif cS (dh t b) (dh t a) then(b,a) else(a,b)) else(a,b)) else(0,0)
theorem ajQ {N:Nat} {t:List ar} {a b:Int} {kf:bY→Option aa} (hl:t.length≤maxLen) (hm:∀ x∈t,x.met.length≤maxLen∧x.met.length<N) (hN:t.length<N):aiX N t a b kf=kf (Oe t a b):=by
 unfold aiX Oe
 rw[jG hl hN,jG hl hN,kJ hl hm hN]
 cases ay t with
 |false=>rfl
 |true=>
  by_cases ha:aw t a≥0
  rotate_left
  ·rw[decide_eq_true (show aw t a<0 by omega),decide_eq_false ha];rfl
  by_cases hb:aw t b≥0
  rotate_left
  ·rw[decide_eq_false (show ¬aw t a<0 by omega),decide_eq_true ha,decide_eq_true (show aw t b<0 by omega),decide_eq_false hb];rfl
  rw[decide_eq_true ha,decide_eq_true hb,decide_eq_false (show ¬aw t a<0 by omega),decide_eq_false (show ¬aw t b<0 by omega),(de ha).1,(de hb).1]
  simp only[cond_true,cond_false,Bool.not_true,Bool.true_and,VU,bne]
  unfold dh
  cases (aw t a==aw t b)
  ·simp only[cond_false,Bool.not_false,cond_true]
   cases decide ((t.getD (aw t b).toNat aj).2.2.2.2.1<(t.getD (aw t a).toNat aj).2.2.2.2.1)
   ·simp only[cond_false]
    cases ((t.getD (aw t b).toNat aj).2.2.2.2.1==(t.getD (aw t a).toNat aj).2.2.2.2.1)
    ·rfl
    ·simp only[cond_true]
     cases cS (t.getD (aw t b).toNat aj) (t.getD (aw t a).toNat aj)<;>rfl
   ·rfl
  ·rfl
theorem VZ {N:Nat} {l:List Int} {n:Int} {kf:Int→Option aa} (hl:l.length≤maxLen) (hN:l.length<N):RT N l n kf=kf (fO (fun x:Int=>n==x) l):=by
 unfold RT
 rw[Ia hl hN,jF (p:=fun x:Int=>n==x) (kf:=fun i=>kf (i:Int)) (fun i x next=>rfl)]
 unfold fO
 cases hJ (fun x:Int=>n==x) l 0<;>rfl
theorem cY {t:List ar} {a:Int} (ha:aw t a≥0):dh t a∈t∧(dh t a).1=a:=by
 obtain⟨k,hk,e,h1,_⟩:=bB (p:=fun x:ar=>x.1==a) (l:=t) (by unfold aw at ha;omega)
 have e:aw t a=(k:Int):=e
 unfold dh
 rw[e,Int.toNat_natCast,ah _ _ hk]
 exact⟨List.getElem_mem hk,by simpa using h1⟩
theorem ZX {t:List ar} (ht:allI (iU t) t 0=true) {x:ar} (hx:x∈t) {a:Int} (e:x.1=a):dh t a=x:=by
 obtain⟨i,hi,rfl⟩:=List.mem_iff_getElem.1 hx
 unfold dh
 rw[(Fw ht hi).2 e.symm,Int.toNat_natCast,ah _ _ hi]
theorem V0 {t:List ar} (ht:allI (iU t) t 0=true) {a:Int} (ha:aw t a≥0):∃ k:Nat,∃ hk:k<(mT t).length,fO (fun x:Int=>a==x) ((mT t).map fun x:ar=>x.1)=(k:Int)∧(mT t)[k]=dh t a:=by
 obtain⟨h1,h2⟩:=cY ha
 have lu:a∈(mT t).map fun x:ar=>x.1:=List.mem_map.2 ⟨dh t a,Ij.2 h1,h2⟩
 by_cases hn:fO (fun x:Int=>a==x) ((mT t).map fun x:ar=>x.1)<0
 ·obtain⟨j,hj,e⟩:=List.mem_iff_getElem.1 lu
  have:=(tI hn).2 j hj
  rw[e] at this
  simp at this
 ·obtain⟨k,hk,e,h3,_⟩:=bB hn
  rw[List.length_map] at hk
  refine⟨k,hk,e,?_⟩
  rw[List.getElem_map,beq_iff_eq] at h3
  exact(ZX ht (Ij.1 (List.getElem_mem hk)) h3.symm).symm
theorem ajR {t:List ar} (ht:allI (iU t) t 0=true) {a b:Int} (ha:aw t a≥0) (hb:aw t b≥0) (uc:a≠b):decide (fO (fun x:Int=>a==x) ((mT t).map fun x:ar=>x.1)<fO (fun x:Int=>b==x) ((mT t).map fun x:ar=>x.1))=!cS (dh t b) (dh t a):=by
 obtain⟨i,hi,e1,h1⟩:=V0 ht ha
 obtain⟨j,hj,e2,h2⟩:=V0 ht hb
 have hs:=List.pairwise_iff_getElem.1 (JP t)
 rw[e1,e2]
 rcases Nat.lt_trichotomy i j with h |h |h
 ·have:=hs i j hi hj h
  rw[h1,h2] at this
  unfold QO at this
  rw[this,decide_eq_true (by omega)];rfl
 ·subst h
  have:dh t a=dh t b:=by rw[←h1,←h2]
  exact absurd (by rw[←(cY ha).2,←(cY hb).2,this]) uc
 ·have:=hs j i hj hi h
  rw[h1,h2] at this
  unfold QO at this
  have h3:=SD (a:=dh t a) (b:=dh t b) (by rw[(cY ha).2,(cY hb).2];exact uc) this
  rw[h3,decide_eq_false (by omega)];rfl
theorem ajS {N:Nat} {t:List ar} {a b:Int} {kf:bY→Option aa} (hl:t.length≤maxLen) (hm:∀ x∈t,x.met.length≤maxLen∧x.met.length<N) (hN:t.length<N) (Co:20<N):aiS N t a b kf=kf (Oe t a b):=by
 have hx:=au
 unfold aiS Oe
 rw[mL hl hN,mL hl hN,lS hl hm hN]
 cases dx:ay t with
 |false=>rfl
 |true=>
  have AJ:=dx
  unfold ay at AJ
  simp only[Bool.and_eq_true,decide_eq_true_eq] at AJ
  obtain⟨h10,ht,_⟩:=AJ
  by_cases ha:aw t a≥0
  rotate_left
  ·rw[decide_eq_true (show aw t a<0 by omega),decide_eq_false ha];rfl
  by_cases hb:aw t b≥0
  rotate_left
  ·rw[decide_eq_false (show ¬aw t a<0 by omega),decide_eq_true ha,decide_eq_true (show aw t b<0 by omega),decide_eq_false hb];rfl
  rw[decide_eq_true ha,decide_eq_true hb,decide_eq_false (show ¬aw t a<0 by omega),decide_eq_false (show ¬aw t b<0 by omega),(de ha).1,(de hb).1,VV hl hm hN Co]
  have hlen:=tO t
  have bO:mU t=(mT t).map fun x:ar=>x.1:=by unfold mU;rw[dx];rfl
  have GZ:(mU t).length=t.length:=by rw[bO,List.length_map,hlen]
  rw[VZ (by omega) (by omega)]
  simp only[VZ (N:=N) (l:=mU t) (by omega) (by omega)]
  by_cases uc:a=b
  ·subst uc;simp
  ·have nM:aw t a≠aw t b:=fun e=>uc (by rw[←(cY ha).2,←(cY hb).2];unfold dh;rw[e])
   have e1:(aw t a==aw t b)=false:=by simpa using nM
   simp only[cond_true,cond_false,Bool.not_true,Bool.true_and,bne,e1,Bool.not_false]
   rw[bO,ajR ht ha hb uc]
   show(bif decide ((dh t a).2.2.2.2.1<(dh t b).2.2.2.2.1) then kf (a,b) else bif (dh t a).2.2.2.2.1==(dh t b).2.2.2.2.1 then(bif !cS (dh t b) (dh t a) then kf (a,b) else kf (b,a)) else kf (b,a))=_
   rcases Int.lt_trichotomy (dh t a).2.2.2.2.1 (dh t b).2.2.2.2.1 with h |h |h
   ·rw[decide_eq_true h,decide_eq_false (by omega),cond_true,cond_false]
    have:((dh t b).2.2.2.2.1==(dh t a).2.2.2.2.1)=false:=by simp;omega
    rw[this];rfl
   ·rw[h,decide_eq_false (Int.lt_irrefl _),cond_false,beq_self_eq_true,cond_true,cond_true,cond_false]
    cases cS (dh t b) (dh t a)<;>rfl
   ·rw[decide_eq_false (by omega),decide_eq_true h,cond_true,cond_false]
    have:((dh t a).2.2.2.2.1==(dh t b).2.2.2.2.1)=false:=by simp;omega
    rw[this];rfl
theorem ajT {N:Nat} {a b:List Int} {kf:List Int→Option aa} (ha:a.length≤1048700) (hb:b.length≤1048700) (hN:2<N):aiR N [a,b] kf=kf (a++b):=by
 have hm:=au
 unfold aiR
 rw[Zm (by simp;omega) (by simpa using hN)]
 simp only[bI]
 rw[wrap64 (n:=(0:Int)+(List.length a:Int)) (by omega) (by omega),decide_eq_false (by omega),cond_false,wrap64 (n:=(0:Int)+(List.length a:Int)+(List.length b:Int)) (by omega) (by omega),decide_eq_false (by omega),cond_false]
 unfold aq5
 have e:(List.isEmpty ([]:List Int)&&(decide ((0:Int)≤0+(List.length a:Int)+(List.length b:Int))&&decide (0+(List.length a:Int)+(List.length b:Int)≤(549755813888:Int))))=true:=by
  rw[decide_eq_true (by omega),decide_eq_true (by omega)];rfl
 rw[e,cond_true]
 show kZ [a,b] (List.length [a,b]:Int) N kf [] 0=_
 rw[Sr (by simp;omega) (by simpa using hN)]
 simp only[bI]
 rw[decide_eq_true (by simp;omega),cond_true,decide_eq_true (by simp;omega),cond_true]
 rfl
end Go.Pv.R
namespace Go.Pv.R
set_option linter.unusedVariables false
set_option linter.unusedSimpArgs false
def nI (L:List Int) (i:Nat):List Int:=List.drop 1 (List.take i L)++List.drop (i+1) L
theorem oV {L:List Int} {i:Nat} (h1:1≤i) (h:i<L.length):(nI L i).length=L.length - 2:=by simp[nI];omega
def rb (t:List ar) (f:List Int→Option (List bY)) (L:List Int):Nat→Nat→Option (List bY)
 |0,_=>none
 |k+1,i=>bif b9 t (L.getD 0 0) (L.getD i 0) then
   (match f (nI L i) with
    |some r=>some (Oe t (L.getD 0 0) (L.getD i 0)::r)
    |none=>rb t f L k (i+1))
  else rb t f L k (i+1)
def oW (t:List ar):Nat→List Int→Option (List bY)
 |0,_=>none
 |n+1,L=>bif decide (L.length=0) then some [] else rb t (oW t n) L (L.length - 1) 1
def De {α β:Type} (o:Option (List α)) (k:List α→Bool→β):β:=match o with |some r=>k r true |none=>k [] false
theorem AL {t:List ar} {f:List Int→Option (List bY)} {L:List Int} (hf:∀ (L':List Int) r,f L'=some r→2*r.length=L'.length):∀ (k i:Nat) r,1≤i→i+k=L.length→rb t f L k i=some r→2*r.length=L.length
 |0,i,r,h0,h,e=>by simp[rb] at e
 |k+1,i,r,h0,h,e=>by
  unfold rb at e
  cases hm:b9 t (L.getD 0 0) (L.getD i 0) with
  |false=>rw[hm,cond_false] at e;exact AL hf k (i+1) r (by omega) (by omega) e
  |true=>
   rw[hm,cond_true] at e
   cases hr:f (nI L i) with
   |none=>rw[hr] at e;exact AL hf k (i+1) r (by omega) (by omega) e
   |some r'=>
    rw[hr] at e
    injection e with e
    subst e
    have h1:=hf _ _ hr
    rw[oV h0 (by omega)] at h1
    simp only[List.length_cons]
    omega
theorem tP {t:List ar}:∀ (n:Nat) (L:List Int) r,oW t n L=some r→2*r.length=L.length
 |0,L,r,e=>by simp[oW] at e
 |n+1,L,r,e=>by
  unfold oW at e
  by_cases h:L.length=0
  ·rw[decide_eq_true h,cond_true] at e
   injection e with e
   subst e
   simp[h]
  ·rw[decide_eq_false h,cond_false] at e
   exact AL (fun L' r' e'=>tP n L' r' e') (L.length - 1) 1 r (by omega) (by omega) e
theorem Of {L:List Int} {i:Nat} (h1:1≤i) (h:i<L.length):(decide ((0:Int)≤(1:Int))&&decide ((1:Int)≤(i:Int))&&decide ((i:Int)≤(List.length L:Int)))=true∧(decide ((0:Int)≤((i+1:Nat):Int))&&decide (((i+1:Nat):Int)≤(List.length L:Int))&&decide ((List.length L:Int)≤(List.length L:Int)))=true:=by
 constructor
 ·rw[decide_eq_true (by omega),decide_eq_true (by omega),decide_eq_true (by omega)];rfl
 ·rw[decide_eq_true (by omega),decide_eq_true (by omega),decide_eq_true (by omega)];rfl
theorem FM {N B:Nat} {self:List ar→List Int→(List bY→Bool→Option aa)→Option aa} {t:List ar} {f:List Int→Option (List bY)} {L:List Int} {k0:Option aa} {kf:List bY→Bool→Option aa}
  (hl:t.length≤maxLen) (hm:∀ x∈t,x.met.length≤maxLen∧x.met.length<N) (hN:t.length<N) (Co:20<N) (hL:L.length≤1000)
  (hs:∀ (i:Nat) k,1≤i→i<L.length→self t (nI L i) k=De (f (nI L i)) k) (B7:∀ (L':List Int) r,f L'=some r→2*r.length=L'.length):∀ (k i n:Nat),1≤i→i+k=L.length→k<n→
  qk N self t L n k0 kf (i:Int)=match rb t f L k i with |some r=>kf r true |none=>k0
 |0,i,n+1,h1,h,hn=>by
  simp only[qk]
  rw[decide_eq_false (by omega)]
  rfl
 |k+1,i,n+1,h1,h,hn=>by
  have hx:=au
  have ih:=FM (k0:=k0) (kf:=kf) (B:=B) hl hm hN Co hL hs B7 k (i+1) n (by omega) (by omega) (by omega)
  obtain⟨d1,d2⟩:=Of (L:=L) h1 (by omega)
  have ew:IntKind.wrap .i64 ((i:Int)+1)=((i+1:Nat):Int):=fU (m:=L.length) (i:=i) (by omega) (by omega)
  simp only[qk]
  rw[decide_eq_true (by omega),cond_true,show aQ (0:Int) (List.length L)=true from ak (i:=0) (show 0<L.length by omega),cond_true,ak (show i<L.length by omega),cond_true,VN hl hm hN]
  unfold rb
  show(bif !b9 t (L.getD 0 0) (L.getD i 0) then _ else _)=_
  cases b9 t (L.getD 0 0) (L.getD i 0) with
  |false=>
   simp only[Bool.not_false,cond_true,cond_false]
   rw[ew]
   exact ih
  |true=>
   simp only[Bool.not_true,cond_true,cond_false]
   rw[d1,cond_true,ew,d2,cond_true]
   have e3:(([]:List Int)++List.drop (Int.toNat (1:Int)) (List.take (Int.toNat (i:Int)) L))++List.drop (Int.toNat ((i+1:Nat):Int)) (List.take (Int.toNat (List.length L:Int)) L)=nI L i:=by
    rw[Int.toNat_natCast,Int.toNat_natCast,Int.toNat_natCast,List.take_length];rfl
   rw[e3]
   rw[decide_eq_true (by simp;omega),cond_true,decide_eq_true (by simp;omega),cond_true,hs i _ h1 (by omega)]
   unfold De
   cases hr:f (nI L i) with
   |none=>exact ih
   |some r=>
    have h2:=B7 _ _ hr
    rw[oV h1 (by omega)] at h2
    simp only[cond_true]
    rw[ajQ hl hm hN,decide_eq_true (by simp;omega),cond_true]
    rfl
theorem V1 {t:List ar} {B:Nat} (hl:t.length≤maxLen) (hm:∀ x∈t,x.met.length≤maxLen∧x.met.length<B) (hB:t.length<B) (Co:20<B):∀ (n N:Nat) (L:List Int) (kf:List bY→Bool→Option aa),L.length≤n→L.length<B→L.length≤1000→B+n+1≤N→Se N t L kf=De (oW t (n+1) L) kf
 |n,0,L,kf,_,_,_,h=>by omega
 |n,N+1,L,kf,h1,h2,h3,h=>by
  show Sd (Se N) N t L kf=_
  unfold Sd oW
  by_cases h0:L.length=0
  ·rw[decide_eq_true h0,cond_true]
   have:((List.length L:Int)==0)=true:=by simp[h0]
   rw[this];rfl
  ·rw[decide_eq_false h0,cond_false]
   have:((List.length L:Int)==0)=false:=by simp;intro e;exact h0 (by simp[e])
   rw[this,cond_false]
   obtain⟨n,rfl⟩:∃ m,n=m+1:=⟨n - 1,by omega⟩
   have:=FM (N:=N) (B:=B) (self:=Se N) (t:=t) (f:=oW t (n+1)) (L:=L) (k0:=kf [] false) (kf:=kf) hl (fun x hx=>⟨(hm x hx).1,by have:=(hm x hx).2;omega⟩) (by omega) (by omega) h3 (fun i k hi1 mY=>by
    have hr:=oV hi1 mY
    exact V1 hl hm hB Co n N (nI L i) k (by omega) (by omega) (by omega) (by omega)) (fun L' r e=>tP (n+1) L' r e) (L.length - 1) 1 N (by omega) (by omega) (by omega)
   refine Eq.trans this ?_
   unfold De
   cases rb t (oW t (n+1)) L (L.length - 1) 1<;>rfl
theorem FN {N B:Nat} {self:List ar→List Int→(List bY→Bool→Option aa)→Option aa} {t:List ar} {f:List Int→Option (List bY)} {L:List Int} {k0:Option aa} {kf:List bY→Bool→Option aa}
  (hl:t.length≤maxLen) (hm:∀ x∈t,x.met.length≤maxLen∧x.met.length<N) (hN:t.length<N) (Co:20<N) (hL:L.length≤1000)
  (hs:∀ (i:Nat) k,1≤i→i<L.length→self t (nI L i) k=De (f (nI L i)) k) (B7:∀ (L':List Int) r,f L'=some r→2*r.length=L'.length):∀ (k i n:Nat),1≤i→i+k=L.length→k<n→
  qb N self t L n k0 kf (i:Int)=match rb t f L k i with |some r=>kf r true |none=>k0
 |0,i,n+1,h1,h,hn=>by
  simp only[qb]
  rw[decide_eq_false (by omega)]
  rfl
 |k+1,i,n+1,h1,h,hn=>by
  have hx:=au
  have ih:=FN (k0:=k0) (kf:=kf) (B:=B) hl hm hN Co hL hs B7 k (i+1) n (by omega) (by omega) (by omega)
  obtain⟨d1,d2⟩:=Of (L:=L) h1 (by omega)
  have ew:IntKind.wrap .i64 ((i:Int)+1)=((i+1:Nat):Int):=fU (m:=L.length) (i:=i) (by omega) (by omega)
  simp only[qb]
  rw[decide_eq_true (by omega),cond_true,show aQ (0:Int) (List.length L)=true from ak (i:=0) (show 0<L.length by omega),cond_true,ak (show i<L.length by omega),cond_true,adJ hl hm hN]
  unfold rb
  show(bif !b9 t (L.getD 0 0) (L.getD i 0) then _ else _)=_
  cases b9 t (L.getD 0 0) (L.getD i 0) with
  |false=>
   simp only[Bool.not_false,cond_true,cond_false]
   rw[ew]
   exact ih
  |true=>
   simp only[Bool.not_true,cond_true,cond_false]
   rw[d1,cond_true,ew,d2,cond_true]
   have e3:List.drop (Int.toNat (1:Int)) (List.take (Int.toNat (i:Int)) L)++List.drop (Int.toNat ((i+1:Nat):Int)) (List.take (Int.toNat (List.length L:Int)) L)=nI L i:=by
    rw[Int.toNat_natCast,Int.toNat_natCast,Int.toNat_natCast,List.take_length];rfl
   rw[ajT (by simp;omega) (by simp;omega) (by omega),e3,hs i _ h1 (by omega)]
   unfold De
   cases hr:f (nI L i) with
   |none=>exact ih
   |some r=>
    have h2:=B7 _ _ hr
    rw[oV h1 (by omega)] at h2
    simp only[cond_true]
    rw[ajS hl hm hN Co,decide_eq_true (by simp;omega),cond_true]
    rfl
theorem V2 {t:List ar} {B:Nat} (hl:t.length≤maxLen) (hm:∀ x∈t,x.met.length≤maxLen∧x.met.length<B) (hB:t.length<B) (Co:20<B):∀ (n N:Nat) (L:List Int) (kf:List bY→Bool→Option aa),L.length≤n→L.length<B→L.length≤1000→B+n+1≤N→R2 N t L kf=De (oW t (n+1) L) kf
 |n,0,L,kf,_,_,_,h=>by omega
 |n,N+1,L,kf,h1,h2,h3,h=>by
  show R1 (R2 N) N t L kf=_
  unfold R1 oW
  by_cases h0:L.length=0
  ·rw[decide_eq_true h0,cond_true]
   have:((List.length L:Int)==0)=true:=by simp[h0]
   rw[this];rfl
  ·rw[decide_eq_false h0,cond_false]
   have:((List.length L:Int)==0)=false:=by simp;intro e;exact h0 (by simp[e])
   rw[this,cond_false]
   obtain⟨n,rfl⟩:∃ m,n=m+1:=⟨n - 1,by omega⟩
   have:=FN (N:=N) (B:=B) (self:=R2 N) (t:=t) (f:=oW t (n+1)) (L:=L) (k0:=kf [] false) (kf:=kf) hl (fun x hx=>⟨(hm x hx).1,by have:=(hm x hx).2;omega⟩) (by omega) (by omega) h3 (fun i k hi1 mY=>by
    have hr:=oV hi1 mY
    exact V2 hl hm hB Co n N (nI L i) k (by omega) (by omega) (by omega) (by omega)) (fun L' r e=>tP (n+1) L' r e) (L.length - 1) 1 N (by omega) (by omega) (by omega)
   refine Eq.trans this ?_
   unfold De
   cases rb t (oW t (n+1)) L (L.length - 1) 1<;>rfl
def jM (t:List ar):Option (List bY):=bif ay t then bif decide (t.length%2=1) then none else oW t (t.length+1) (mU t) else none
theorem vL {t:List ar} (h:ay t=true):(mU t).length=t.length:=by unfold mU;rw[h,cond_true,List.length_map,tO]
theorem vM {t:List ar} {r:List bY} (h:jM t=some r):2*r.length=t.length∧t.length≤10:=by
 unfold jM at h
 cases dx:ay t with
 |false=>rw[dx] at h;simp at h
 |true=>
  have AJ:=dx
  unfold ay at AJ
  simp only[Bool.and_eq_true,decide_eq_true_eq] at AJ
  rw[dx,cond_true] at h
  by_cases ho:t.length%2=1
  ·rw[decide_eq_true ho] at h;simp at h
  ·rw[decide_eq_false ho,cond_false] at h
   have:=tP _ _ _ h
   rw[vL dx] at this
   exact⟨this,AJ.1⟩
theorem ape (n:Nat):(Int.tmod (n:Int) 2==1)=decide (n%2=1):=by
 have:Int.tmod (n:Int) 2=((n%2:Nat):Int):=by
  rw[Int.tmod_eq_emod_of_nonneg (by omega)];omega
 rw[this]
 by_cases h:n%2=1
 ·rw[h];rfl
 ·rw[decide_eq_false h];simp;omega
theorem arF {N:Nat} {t:List ar} {kf:List bY→Bool→Option aa} (hl:t.length≤maxLen) (hm:∀ x∈t,x.met.length≤maxLen∧x.met.length+20<N) (hN:t.length+20<N) (h60:60<N):S91 N t kf=De (jM t) kf:=by
 have hx:=au
 unfold S91 jM
 rw[kJ hl (fun x hx=>⟨(hm x hx).1,by have:=(hm x hx).2;omega⟩) (by omega)]
 cases dx:ay t with
 |false=>rfl
 |true=>
  have AJ:=dx
  unfold ay at AJ
  simp only[Bool.and_eq_true,decide_eq_true_eq] at AJ
  rw[ape]
  by_cases ho:t.length%2=1
  ·rw[decide_eq_true ho];rfl
  ·rw[decide_eq_false ho]
   simp only[Bool.not_true,cond_true,cond_false]
   rw[ajN hl (fun x hx=>⟨(hm x hx).1,by have:=(hm x hx).2;omega⟩) (by omega)]
   have hs:=vL dx
   exact V1 (B:=N - 15) hl (fun x hx=>⟨(hm x hx).1,by have:=(hm x hx).2;omega⟩) (by omega) (by omega) t.length N _ _ (by omega) (by omega) (by omega) (by omega)
theorem ajU {N:Nat} {t:List ar} {kf:List bY→Bool→Option aa} (hl:t.length≤maxLen) (hm:∀ x∈t,x.met.length≤maxLen∧x.met.length+20<N) (hN:t.length+20<N) (h60:60<N):aiT N t kf=De (jM t) kf:=by
 have hx:=au
 unfold aiT jM
 rw[lS hl (fun x hx=>⟨(hm x hx).1,by have:=(hm x hx).2;omega⟩) (by omega)]
 cases dx:ay t with
 |false=>rfl
 |true=>
  have AJ:=dx
  unfold ay at AJ
  simp only[Bool.and_eq_true,decide_eq_true_eq] at AJ
  rw[ape]
  by_cases ho:t.length%2=1
  ·rw[decide_eq_true ho];rfl
  ·rw[decide_eq_false ho]
   simp only[Bool.not_true,cond_true,cond_false]
   rw[VV hl (fun x hx=>⟨(hm x hx).1,by have:=(hm x hx).2;omega⟩) (by omega) (by omega)]
   have hs:=vL dx
   exact V2 (B:=N - 15) hl (fun x hx=>⟨(hm x hx).1,by have:=(hm x hx).2;omega⟩) (by omega) (by omega) t.length N _ _ (by omega) (by omega) (by omega) (by omega)
end Go.Pv.R
namespace Go.Pv.R
set_option linter.unusedVariables false
set_option linter.unusedSimpArgs false
def sO (t:List ar) (js:List aR) (p:bY) (used:List Int) (f:List Int→Option (List Int)):Nat→Nat→Option (List Int)
 |0,_=>none
 |k+1,i=>bif jd used (js.getD i cg).1 then sO t js p used f k (i+1) else
   bif dF t (js.getD i cg) p then
   (match f (used++[(js.getD i cg).1]) with
    |some r=>some ((js.getD i cg).1::r)
    |none=>sO t js p used f k (i+1))
  else sO t js p used f k (i+1)
def rf (t:List ar) (js:List aR):List bY→List Int→Option (List Int)
 |[],_=>some []
 |p::ps,used=>sO t js p used (rf t js ps) js.length 0
def arG {α β:Type} (o:Option (List α)) (k0:β) (k:List α→Bool→β):β:=match o with |some r=>k r true |none=>k0
theorem V3 {α β:Type} (o:Option (List α)) (k:List α→Bool→β):arG o (k [] false) k=De o k:=by cases o<;>rfl
def SE (js:List aR) (n:Nat) (used r:List Int):Prop:=r.length=n∧r.Nodup∧∀ x∈r,x∈js.map (fun x:aR=>x.1)∧x∉used
theorem tQ {t:List ar} {js:List aR} {p:bY} {used:List Int} {f:List Int→Option (List Int)} {n:Nat} (hf:∀ u r,f u=some r→SE js n u r):∀ (k i:Nat) r,i+k=js.length→sO t js p used f k i=some r→SE js (n+1) used r
 |0,i,r,h,e=>by simp[sO] at e
 |k+1,i,r,h,e=>by
  unfold sO at e
  cases hu:jd used (js.getD i cg).1 with
  |true=>rw[hu,cond_true] at e;exact tQ hf k (i+1) r (by omega) e
  |false=>
   rw[hu,cond_false] at e
   cases hm:dF t (js.getD i cg) p with
   |false=>rw[hm,cond_false] at e;exact tQ hf k (i+1) r (by omega) e
   |true=>
    rw[hm,cond_true] at e
    cases hr:f (used++[(js.getD i cg).1]) with
    |none=>rw[hr] at e;exact tQ hf k (i+1) r (by omega) e
    |some r'=>
     rw[hr] at e
     injection e with e
     subst e
     obtain⟨h1,h2,h3⟩:=hf _ _ hr
     have fh:(js.getD i cg).1∈js.map (fun x:aR=>x.1):=by
      rw[ah _ _ (show i<js.length by omega)]
      exact List.mem_map.2 ⟨_,List.getElem_mem _,rfl⟩
     have hnu:(js.getD i cg).1∉used:=fun hc=>by
      have:=la.2 hc
      rw[hu] at this
      cases this
     refine⟨by simp[h1],List.nodup_cons.2 ⟨fun hc=>?_,h2⟩,fun x hx=>?_⟩
     ·have:=(h3 _ hc).2
      simp at this
     ·rcases List.mem_cons.1 hx with rfl |hx
      ·exact⟨fh,hnu⟩
      ·obtain⟨q1,q2⟩:=h3 x hx
       refine⟨q1,fun hc=>q2 ?_⟩
       simp[hc]
theorem sQ {t:List ar} {js:List aR}:∀ (ps:List bY) (used r:List Int),rf t js ps used=some r→SE js ps.length used r
 |[],used,r,e=>by
  unfold rf at e
  injection e with e
  subst e
  exact⟨rfl,List.nodup_nil,fun x hx=>by simp at hx⟩
 |p::ps,used,r,e=>tQ (fun u r e=>sQ ps u r e) js.length 0 r (by omega) e
theorem oX:∀ (r L:List Int),r.Nodup→(∀ x∈r,x∈L)→r.length≤L.length
 |[],L,_,_=>by simp
 |x::r,L,hn,h=>by
  rw[List.nodup_cons] at hn
  have hx:=h x (by simp)
  have h1:=List.length_erase_of_mem hx
  have h2:=List.length_pos_of_mem hx
  have:=oX r (L.erase x) hn.2 fun y hy=>by
   have nM:y≠x:=fun e=>hn.1 (e▸hy)
   exact(List.mem_erase_of_ne nM).2 (h y (by simp[hy]))
  simp only[List.length_cons]
  omega
theorem adW {t:List ar} {js:List aR} {ps:List bY} {used r:List Int} (h:rf t js ps used=some r):ps.length≤js.length:=by
 obtain⟨h1,h2,h3⟩:=sQ ps used r h
 have:=oX r (js.map fun x:aR=>x.1) h2 fun x hx=>(h3 x hx).1
 rw[List.length_map] at this
 omega
theorem V4 {p:bY} {ps:List bY}:(decide ((0:Int)≤(1:Int))&&decide ((1:Int)≤(List.length (p::ps):Int))&&decide ((List.length (p::ps):Int)≤(List.length (p::ps):Int)))=true∧List.drop (Int.toNat (1:Int)) (List.take (Int.toNat (List.length (p::ps):Int)) (p::ps))=ps:=by
 constructor
 ·rw[decide_eq_true (by omega),decide_eq_true (by simp only[List.length_cons];omega),decide_eq_true (by omega)];rfl
 ·rw[Int.toNat_natCast,List.take_length];rfl
theorem FP {N:Nat} {self:List ar→List aR→List bY→List Int→(List Int→Bool→Option aa)→Option aa} {t:List ar} {js:List aR} {p:bY} {ps:List bY} {used:List Int} {f:List Int→Option (List Int)} {k0:Option aa} {kf:List Int→Bool→Option aa}
  (hl:t.length≤maxLen) (hN:t.length<N) (Co:20<N) (hj:js.length≤1048700) (wZ:∀ x∈js,x.2.2.length≤maxLen∧x.2.2.length<N) (hu:used.length≤1000) (huN:used.length<N)
  (hs:∀ (x:Int) k,self t js ps (used++[x]) k=De (f (used++[x])) k) (B7:∀ (u:List Int) r,f u=some r→r.length≤1000):∀ (k i n:Nat),i+k=js.length→k<n→
  nu N self t js (p::ps) used n k0 kf (i:Int)=arG (sO t js p used f k i) k0 kf
 |0,i,n+1,h,hn=>by
  simp only[nu]
  rw[decide_eq_false (by omega)]
  rfl
 |k+1,i,n+1,h,hn=>by
  have hx:=au
  have ih:=FP (k0:=k0) (kf:=kf) (p:=p) hl hN Co hj wZ hu huN hs B7 k (i+1) n (by omega) (by omega)
  have ew:IntKind.wrap .i64 ((i:Int)+1)=((i+1:Nat):Int):=fU (m:=js.length) (i:=i) (by omega) (by omega)
  obtain⟨d1,d2⟩:=V4 (p:=p) (ps:=ps)
  have hi:i<js.length:=by omega
  obtain⟨m1,m2⟩:=wZ js[i] (List.getElem_mem hi)
  simp only[nu]
  rw[decide_eq_true (by omega),cond_true,ak hi,cond_true,qC (by omega) huN]
  unfold sO
  have eg:js.getD (Int.toNat (i:Int)) cg=js[i]:=ah _ _ hi _
  have eg2:js.getD i cg=js[i]:=ah _ _ hi _
  rw[eg,eg2]
  cases jd used js[i].1 with
  |true=>
   simp only[cond_true]
   rw[ew]
   exact ih
  |false=>
   simp only[cond_false]
   rw[cond_true,show aQ (0:Int) (List.length (p::ps))=true from ak (i:=0) (by simp),cond_true,VO hl hN m1 m2]
   show(bif !dF t js[i] p then _ else _)=_
   cases dF t js[i] p with
   |false=>
    simp only[Bool.not_false,cond_true,cond_false]
    rw[ew]
    exact ih
   |true=>
    simp only[Bool.not_true,cond_true,cond_false]
    rw[d1,cond_true,d2,decide_eq_true (by simp;omega),cond_true,decide_eq_true (by simp;omega),cond_true,List.nil_append,hs,ew]
    unfold De
    cases hr:f (used++[js[i].1]) with
    |none=>exact ih
    |some r=>
     have:=B7 _ _ hr
     simp only[cond_true]
     rw[decide_eq_true (by simp;omega),cond_true]
     rfl
theorem FQ {N:Nat} {self:List ar→List aR→List bY→List Int→(List Int→Bool→Option aa)→Option aa} {t:List ar} {js:List aR} {p:bY} {ps:List bY} {used:List Int} {f:List Int→Option (List Int)} {k0:Option aa} {kf:List Int→Bool→Option aa}
  (hl:t.length≤maxLen) (hN:t.length<N) (Co:20<N) (hj:js.length≤1048700) (wZ:∀ x∈js,x.2.2.length≤maxLen∧x.2.2.length<N) (hu:used.length≤1000) (huN:used.length<N)
  (hs:∀ (x:Int) k,self t js ps (used++[x]) k=De (f (used++[x])) k) (B7:∀ (u:List Int) r,f u=some r→r.length≤1000):∀ (k i n:Nat),i+k=js.length→k<n→
  nj N self t js (p::ps) used js (js.length:Int) n k0 kf (i:Int)=arG (sO t js p used f k i) k0 kf
 |0,i,n+1,h,hn=>by
  simp only[nj]
  rw[decide_eq_false (by omega)]
  rfl
 |k+1,i,n+1,h,hn=>by
  have hx:=au
  have ih:=FQ (k0:=k0) (kf:=kf) (p:=p) hl hN Co hj wZ hu huN hs B7 k (i+1) n (by omega) (by omega)
  have ew:IntKind.wrap .i64 ((i:Int)+1)=((i+1:Nat):Int):=fU (m:=js.length) (i:=i) (by omega) (by omega)
  obtain⟨d1,d2⟩:=V4 (p:=p) (ps:=ps)
  have hi:i<js.length:=by omega
  obtain⟨m1,m2⟩:=wZ js[i] (List.getElem_mem hi)
  simp only[nj]
  rw[decide_eq_true (by omega),cond_true,ak hi,cond_true,Fx (by omega) huN]
  unfold sO
  have eg:js.getD (Int.toNat (i:Int)) cg=js[i]:=ah _ _ hi _
  have eg2:js.getD i cg=js[i]:=ah _ _ hi _
  rw[eg,eg2]
  cases jd used js[i].1 with
  |true=>
   simp only[cond_true]
   rw[ew]
   exact ih
  |false=>
   simp only[cond_false]
   rw[show aQ (0:Int) (List.length (p::ps))=true from ak (i:=0) (by simp),cond_true,adK hl hN m1 m2 (by omega)]
   show(bif !dF t js[i] p then _ else _)=_
   cases dF t js[i] p with
   |false=>
    simp only[Bool.not_false,cond_true,cond_false]
    rw[ew]
    exact ih
   |true=>
    simp only[Bool.not_true,cond_true,cond_false]
    rw[d1,cond_true,d2,Dv (by omega),decide_eq_true (by simp;omega),cond_true,hs,ew]
    unfold De
    cases hr:f (used++[js[i].1]) with
    |none=>exact ih
    |some r=>
     have:=B7 _ _ hr
     simp only[cond_true]
     rw[decide_eq_true (by simp;omega),cond_true]
     rfl
theorem V5 {t:List ar} {js:List aR} {B:Nat} (hl:t.length≤maxLen) (hN:t.length<B) (Co:20<B) (hj:js.length≤1048700) (hjN:js.length<B) (wZ:∀ x∈js,x.2.2.length≤maxLen∧x.2.2.length<B):∀ (ps:List bY) (N:Nat) (used:List Int) (kf:List Int→Bool→Option aa),used.length+ps.length≤900→used.length+ps.length<B→B+ps.length+1≤N→Sh N t js ps used kf=De (rf t js ps used) kf
 |ps,0,used,kf,_,_,h=>by omega
 |[],N+1,used,kf,_,_,_=>rfl
 |p::ps,N+1,used,kf,h1,h2,h=>by
  simp only[List.length_cons] at h h1 h2
  show Sg (Sh N) N t js (p::ps) used kf=_
  unfold Sg rf
  have e:((List.length (p::ps):Int)==0)=false:=by simp;omega
  rw[e,cond_false,←V3]
  exact FP (N:=N) (self:=Sh N) (f:=rf t js ps) hl (by omega) (by omega) hj (fun x hx=>⟨(wZ x hx).1,by have:=(wZ x hx).2;omega⟩) (by omega) (by omega) (fun x k=>V5 hl hN Co hj hjN wZ ps N _ k (by simp;omega) (by simp;omega) (by omega)) (fun u r e=>by have:=(sQ ps u r e).1;omega) js.length 0 N (by omega) (by omega)
theorem V6 {t:List ar} {js:List aR} {B:Nat} (hl:t.length≤maxLen) (hN:t.length<B) (Co:20<B) (hj:js.length≤1048700) (hjN:js.length<B) (wZ:∀ x∈js,x.2.2.length≤maxLen∧x.2.2.length<B):∀ (ps:List bY) (N:Nat) (used:List Int) (kf:List Int→Bool→Option aa),used.length+ps.length≤900→used.length+ps.length<B→B+ps.length+1≤N→R4 N t js ps used kf=De (rf t js ps used) kf
 |ps,0,used,kf,_,_,h=>by omega
 |[],N+1,used,kf,_,_,_=>rfl
 |p::ps,N+1,used,kf,h1,h2,h=>by
  simp only[List.length_cons] at h h1 h2
  show R3 (R4 N) N t js (p::ps) used kf=_
  unfold R3 rf
  have e:((List.length (p::ps):Int)==0)=false:=by simp;omega
  rw[e,cond_false,←V3]
  exact FQ (N:=N) (self:=R4 N) (f:=rf t js ps) hl (by omega) (by omega) hj (fun x hx=>⟨(wZ x hx).1,by have:=(wZ x hx).2;omega⟩) (by omega) (by omega) (fun x k=>V6 hl hN Co hj hjN wZ ps N _ k (by simp;omega) (by simp;omega) (by omega)) (fun u r e=>by have:=(sQ ps u r e).1;omega) js.length 0 N (by omega) (by omega)
def gU (t:List ar) (js:List aR) (ps:List bY):Option (List Int):=bif bw js&&ay t then rf t js ps [] else none
theorem adX {N:Nat} {t:List ar} {js:List aR} {ps:List bY} {kf:List Int→Bool→Option aa} (hl:t.length≤maxLen) (hm:∀ x∈t,x.met.length≤maxLen∧x.met.length+20<N) (hN:t.length+20<N) (h60:60<N) (hj:js.length≤1048700) (hjN:js.length+20<N) (wZ:∀ x∈js,x.2.2.length≤maxLen∧x.2.2.length+20<N) (hp:ps.length≤10):S92 N t js ps kf=De (gU t js ps) kf:=by
 have hx:=au
 unfold S92 gU
 rw[JE (by omega) (fun x hx=>⟨(wZ x hx).1,by have:=(wZ x hx).2;omega⟩) (by omega)]
 cases bw js with
 |false=>rfl
 |true=>
  simp only[Bool.not_true,cond_false,Bool.true_and]
  rw[kJ hl (fun x hx=>⟨(hm x hx).1,by have:=(hm x hx).2;omega⟩) (by omega)]
  cases ay t with
  |false=>rfl
  |true=>exact V5 (B:=N - 15) hl (by omega) (by omega) hj (by omega) (fun x hx=>⟨(wZ x hx).1,by have:=(wZ x hx).2;omega⟩) ps N [] kf (by simp;omega) (by simp;omega) (by omega)
theorem V7 {N:Nat} {t:List ar} {js:List aR} {ps:List bY} {kf:List Int→Bool→Option aa} (hl:t.length≤maxLen) (hm:∀ x∈t,x.met.length≤maxLen∧x.met.length+20<N) (hN:t.length+20<N) (h60:60<N) (hj:js.length≤1048700) (hjN:js.length+20<N) (wZ:∀ x∈js,x.2.2.length≤maxLen∧x.2.2.length+20<N) (hp:ps.length≤10):aiU N t js ps kf=De (gU t js ps) kf:=by
 have hx:=au
 unfold aiU gU
 rw[Sw (by omega) (fun x hx=>⟨(wZ x hx).1,by have:=(wZ x hx).2;omega⟩) (by omega)]
 cases bw js with
 |false=>rfl
 |true=>
  simp only[Bool.not_true,cond_false,Bool.true_and]
  rw[lS hl (fun x hx=>⟨(hm x hx).1,by have:=(hm x hx).2;omega⟩) (by omega)]
  cases ay t with
  |false=>rfl
  |true=>
   simp only[Bool.not_true,cond_false,cond_true]
   by_cases hgt:ps.length>js.length
   ·rw[decide_eq_true (by omega),cond_true]
    cases hs:rf t js ps [] with
    |none=>rfl
    |some r=>have:=adW hs;omega
   ·rw[decide_eq_false (by omega),cond_false]
    exact V6 (B:=N - 15) hl (by omega) (by omega) hj (by omega) (fun x hx=>⟨(wZ x hx).1,by have:=(wZ x hx).2;omega⟩) ps N [] kf (by simp;omega) (by simp;omega) (by omega)
def Cv (c:aF) (ps:List bY) (ss:List Int):aF:=(c.1,(c.2.1,(ps,(ss,(List.replicate ps.length ((0:Int),((0:Int),(0:Int))),c.2.2.2.2.2)))))
def iC (c:aF):Bool:=decide (c.2.2.1.length=0)&&decide (0<c.1.length)
def cp (c:aF):aF×Bool:=match jM c.1 with
 |none=>(c,false)
 |some ps=>match gU c.1 c.2.1 ps with
  |none=>(c,false)
  |some ss=>bif iC c then(ff c (Cv c ps ss) 3 0,dW c (Cv c ps ss) 3 0) else(c,false)
theorem Og {c:aF} {N:Nat} {ps:List bY} {ss:List Int} (h:bh c N) (hp:ps.length≤10) (hs:ss.length≤10) (hN:60<N):bh (Cv c ps ss) N:=
 ⟨h.tl,h.tm,h.tN,h.jl,h.jm,h.jN,by show ps.length≤_;omega,by show 2*ps.length<_;omega,by show ss.length≤_;omega,by show ss.length<_;omega,by show(List.replicate _ _).length≤_;rw[List.length_replicate];omega,by show(List.replicate _ _).length<_;rw[List.length_replicate];omega,h.ml,h.mN,h.n8,h.tb,h.tmb,h.jb,h.jmb⟩
theorem FR {t:List ar} {js:List aR} {ps:List bY} {ss:List Int} (h:gU t js ps=some ss):ss.length=ps.length:=by
 unfold gU at h
 cases hb:(bw js&&ay t) with
 |false=>rw[hb] at h;simp at h
 |true=>rw[hb,cond_true] at h;exact(sQ _ _ _ h).1
theorem arH {N:Nat} {c:aF} {kf:aF→Bool→Option aa} (h:bh c N) (h':bh c (N - 40)) (hN:200<N) (hl:c.2.2.2.2.2.1.length+1<N):S21 N c kf=kf (cp c).1 (cp c).2:=by
 have hx:=au
 have t1:=h'.tN
 have t2:=h'.jN
 have t3:=h'.tm
 have t4:=h'.jm
 have hj:=h.jb
 have htm:∀ x:ar,x∈c.1→x.met.length≤maxLen∧x.met.length+20<N:=fun x hx=>⟨(t3 x hx).1,by have:=(t3 x hx).2;omega⟩
 have wZ:∀ x∈c.2.1,x.2.2.length≤maxLen∧x.2.2.length+20<N:=fun x hx=>⟨(t4 x hx).1,by have:=(t4 x hx).2;omega⟩
 have ud:∀ out aZ dC,Y9 N c out false aZ dC kf=kf c false:=fun out aZ dC=>(vJ (out:=out) h (fun e=>by cases e) hN hl)
 unfold S21 cp
 rw[qE h,arF h.tl htm (by omega) (by omega)]
 unfold De
 cases hr:jM c.1 with
 |none=>
  simp only[]
  rw[adX h.tl htm (by omega) (by omega) hj (by omega) wZ (by simp)]
  unfold De
  cases gU c.1 c.2.1 []<;>exact ud _ _ _
 |some ps=>
  obtain⟨l1,l2⟩:=vM hr
  simp only[]
  rw[adX h.tl htm (by omega) (by omega) hj (by omega) wZ (by omega)]
  unfold De
  have e0:(decide ((List.length ps:Int)=(List.length ps:Int))&&decide ((0:Int)≤(List.length ps:Int))&&decide ((List.length ps:Int)≤1099511627776))=true:=by
   rw[decide_eq_true rfl,decide_eq_true (by omega),decide_eq_true (by omega)];rfl
  have e0t:(decide True&&decide ((0:Int)≤(List.length ps:Int))&&decide ((List.length ps:Int)≤1099511627776))=true:=by
   rw[decide_eq_true trivial,decide_eq_true (by omega),decide_eq_true (by omega)];rfl
  cases hs:gU c.1 c.2.1 ps with
  |none=>
   simp only[]
   first |rw[e0] |rw[e0t]
   exact ud _ _ _
  |some ss=>
   have l3:=FR hs
   have hd:=fun ok=>vJ (out:=Cv c ps ss) (ok:=ok) (aZ:=3) (dC:=0) (kf:=kf) h (fun _=>Og h (by omega) (by omega) (by omega)) hN hl
   simp only[]
   first |rw[e0] |rw[e0t]
   simp only[cond_true]
   unfold S94 iC
   by_cases b7:c.2.2.1.length=0
   ·rw[decide_eq_false (show ¬(List.length c.2.2.1:Int)>0 by omega),decide_eq_true b7]
    simp only[Bool.not_false,cond_true,Bool.true_and]
    have e2:decide ((List.length c.1:Int)>(0:Int))=decide (0<c.1.length):=decide_eq_decide.2 (by omega)
    rw[e2]
    refine(hd (decide (0<c.1.length))).trans ?_
    cases decide (0<c.1.length)<;>rfl
   ·rw[decide_eq_true (show(List.length c.2.2.1:Int)>0 by omega),decide_eq_false b7]
    exact ud _ _ _
theorem arI {N:Nat} {c:aF} {kf:aF→Bool→Option aa} (h:bh c N) (h':bh c (N - 40)) (hN:200<N) (hl:c.2.2.2.2.2.1.length+1<N):I23 N c kf=kf (cp c).1 (cp c).2:=by
 have hx:=au
 have t1:=h'.tN
 have t2:=h'.jN
 have t3:=h'.tm
 have t4:=h'.jm
 have hj:=h.jb
 have htm:∀ x:ar,x∈c.1→x.met.length≤maxLen∧x.met.length+20<N:=fun x hx=>⟨(t3 x hx).1,by have:=(t3 x hx).2;omega⟩
 have wZ:∀ x∈c.2.1,x.2.2.length≤maxLen∧x.2.2.length+20<N:=fun x hx=>⟨(t4 x hx).1,by have:=(t4 x hx).2;omega⟩
 have ud:bG c=false→cp c=(c,false):=fun hc=>by
  have hd:∀ out aZ dC,dW c out aZ dC=false:=fun out aZ dC=>by unfold dW;rw[hc];simp
  have hd2:∀ out aZ dC,ff c out aZ dC=c:=fun out aZ dC=>by unfold ff;rw[hd];rfl
  unfold cp
  cases jM c.1 with
  |none=>rfl
  |some ps=>
   simp only[]
   cases gU c.1 c.2.1 ps with
   |none=>rfl
   |some ss=>
    simp only[hd,hd2]
    cases iC c<;>rfl
 have awe:iC c=false→cp c=(c,false):=fun hc=>by
  unfold cp
  cases jM c.1 with
  |none=>rfl
  |some ps=>
   simp only[]
   cases gU c.1 c.2.1 ps with
   |none=>rfl
   |some ss=>
    simp only[hc]
    rfl
 unfold I23
 rw[mQ h,FA h]
 cases hc:bG c with
 |false=>rw[ud hc];rfl
 |true=>
  unfold Vs
  show(bif decide ((List.length c.2.2.1:Int)>(0:Int)) then _ else _)=_
  by_cases b7:c.2.2.1.length=0
  rotate_left
  ·rw[decide_eq_true (show(List.length c.2.2.1:Int)>0 by omega),cond_true,awe (by unfold iC;rw[decide_eq_false b7];rfl)]
  rw[decide_eq_false (show ¬(List.length c.2.2.1:Int)>0 by omega),cond_false]
  by_cases h0:c.1.length=0
  ·have e:((List.length c.1:Int)==0)=true:=by simp[h0]
   rw[e,cond_true,awe (by unfold iC;rw[decide_eq_false (show ¬ 0<c.1.length by omega)];simp)]
  have e:((List.length c.1:Int)==0)=false:=by simp;intro q;exact h0 (by simp[q])
  have hmp:iC c=true:=by unfold iC;rw[decide_eq_true b7,decide_eq_true (show 0<c.1.length by omega)];rfl
  rw[e,cond_false,ajU h.tl htm (by omega) (by omega)]
  unfold De cp
  cases hr:jM c.1 with
  |none=>
   simp only[]
   rw[V7 h.tl htm (by omega) (by omega) hj (by omega) wZ (by simp)]
   unfold De
   cases gU c.1 c.2.1 []<;>rfl
  |some ps=>
   obtain⟨l1,l2⟩:=vM hr
   simp only[]
   rw[V7 h.tl htm (by omega) (by omega) hj (by omega) wZ (by omega)]
   unfold De
   have e0:(decide ((List.length ps:Int)=(List.length ps:Int))&&decide ((0:Int)≤(List.length ps:Int))&&decide ((List.length ps:Int)≤1099511627776))=true:=by
    rw[decide_eq_true rfl,decide_eq_true (by omega),decide_eq_true (by omega)];rfl
   have e0t:(decide True&&decide ((0:Int)≤(List.length ps:Int))&&decide ((List.length ps:Int)≤1099511627776))=true:=by
    rw[decide_eq_true trivial,decide_eq_true (by omega),decide_eq_true (by omega)];rfl
   cases hs:gU c.1 c.2.1 ps with
   |none=>rfl
   |some ss=>
    have l3:=FR hs
    simp only[hmp,cond_true]
    first |rw[e0] |rw[e0t]
    simp only[cond_true,Bool.not_true,cond_false]
    exact tL (out:=Cv c ps ss) h (Og h (by omega) (by omega) (by omega)) rfl hN hl
end Go.Pv.R
namespace Go.Pv.R
set_option linter.unusedVariables false
set_option linter.unusedSimpArgs false
def ofM (b:eQ):Int:=bif decide (b.2.1>b.2.2) then 1 else 2
theorem AM (b:eQ):ofM b=1∨ofM b=2:=by
 unfold ofM
 cases decide (b.2.1>b.2.2)<;>simp
theorem ajV {N:Nat} {b:eQ} {kf:Int→Option aa}:Y' N b kf=kf (ofM b):=by
 unfold Y' ofM
 cases decide (b.2.1>b.2.2)<;>rfl
theorem ajW {N:Nat} {b:eQ} {kf:Int→Option aa}:Y1 N b kf=kf (ofM b):=by
 unfold Y1 ofM
 cases decide (b.2.1>b.2.2)<;>rfl
theorem Oh {N:Nat} {b:eQ} {kf:Bool→Option aa} (hN:2<N):Sn N [b] kf=kf (bM b):=by
 have hm:=au
 unfold Sn
 rw[ZH (by simp;omega) (by simp;omega)]
 simp only[mf,JF]
 cases bM b<;>rfl
theorem sR {N:Nat} {b:eQ} {kf:Bool→Option aa} (hN:2<N):Y0 N [b] kf=kf (bM b):=by
 have hm:=au
 unfold Y0
 rw[Zn (by simp;omega) (by simp;omega)]
 simp only[mf,JG]
 cases bM b<;>rfl
def Ik (b:eQ) (k:Int):Int:=bif ofM b==k then 1 else 0
theorem adY {N:Nat} {b:eQ} {k:Int} {kf:Int→Option aa} (hN:2<N) (hb:bM b=true):ac4 N [b] k kf=kf (Ik b k):=by
 have hm:=au
 unfold ac4 Ik
 rw[ZI (by simp;omega) (by simp;omega)]
 simp only[bI,Oh hN,hb,cond_true,ajV]
 cases ofM b==k<;>rfl
theorem adZ {N:Nat} {b:eQ} {k:Int} {kf:Int→Option aa} (hN:2<N) (hb:bM b=true):acO N [b] k kf=kf (Ik b k):=by
 have hm:=au
 unfold acO Ik
 rw[sR hN,hb]
 simp only[Bool.not_true,cond_false]
 rw[Zo (by simp;omega) (by simp;omega)]
 simp only[bI,ajW]
 cases ofM b==k<;>rfl
theorem Oi {N:Nat} {b:eQ} {kf:Int→Option aa} {k:Int} (hN:2<N) (hb:bM b=true):∃ r,∀ kf,R5 N [b] k kf=kf r:=by
 have hm:=au
 by_cases h1:k=1
 ·subst h1
  refine⟨IntKind.wrap .i64 (0+b.2.1),fun kf=>?_⟩
  unfold R5
  rw[sR hN,hb]
  simp only[Bool.not_true,cond_false]
  rw[AE (by simp;omega) (by simp;omega)]
  simp only[bI]
  rfl
 ·have e1:(k==(1:Int))=false:=by simpa using h1
  by_cases h2:k=2
  ·subst h2
   refine⟨IntKind.wrap .i64 (0+b.2.2),fun kf=>?_⟩
   unfold R5
   rw[sR hN,hb]
   simp only[Bool.not_true,cond_false]
   rw[AE (by simp;omega) (by simp;omega)]
   simp only[bI]
   rfl
  ·have e2:(k==(2:Int))=false:=by simpa using h2
   refine⟨0,fun kf=>?_⟩
   unfold R5
   rw[sR hN,hb]
   simp only[Bool.not_true,cond_false]
   rw[AE (by simp;omega) (by simp;omega)]
   simp only[bI,e1,e2,cond_false]
theorem ad0 {N:Nat} {b:eQ} {kf:Int→Option aa} (hN:2<N) (hb:bM b=true):Za N [b] kf=kf (ofM b):=by
 unfold Za
 have e:((List.length [b]:Int)==(0:Int))=false:=rfl
 rw[e,cond_false,Oh hN,hb]
 simp only[Bool.not_true,cond_false,adY hN hb]
 unfold Ik
 rcases AM b with h |h<;>rw[h]<;>rfl
theorem ad1 {N:Nat} {b:eQ} {kf:Int→Option aa} (hN:2<N) (hb:bM b=true):Y2 N [b] kf=kf (ofM b):=by
 unfold Y2
 have e:((List.length [b]:Int)==(0:Int))=false:=rfl
 obtain⟨r1,h1⟩:=Oi (N:=N) (b:=b) (kf:=kf) (k:=1) hN hb
 obtain⟨r2,h2⟩:=Oi (N:=N) (b:=b) (kf:=kf) (k:=2) hN hb
 rw[e,cond_false,sR hN,hb]
 simp only[Bool.not_true,cond_false,adZ hN hb,h1,h2]
 unfold Ik
 rcases AM b with h |h<;>rw[h]<;>rfl
def two {α:Type} (t:List α) (i j:Nat) (x y:α):List α:=(t.set i x).set j y
section
variable {α:Type} {t:List α} {i j:Nat} {x y x' y' z:α}
theorem xV:(two t i j x y).length=t.length:=by simp[two]
theorem Oj (h:i≠j) (hi:i<t.length):(two t i j x y).getD i z=x:=by
 rw[List.getD_eq_getElem?_getD,two,List.getElem?_set_ne (by omega),List.getElem?_set_self hi];rfl
theorem Ol (hj:j<t.length):(two t i j x y).getD j z=y:=by
 rw[List.getD_eq_getElem?_getD,two,List.getElem?_set_self (by simpa using hj)];rfl
theorem Om (h:i≠j):(two t i j x y).set i x'=two t i j x' y:=by
 unfold two
 rw[List.set_comm _ _ (fun e=>h e.symm),List.set_set]
theorem On:(two t i j x y).set j y'=two t i j x y':=by
 unfold two
 rw[List.set_set]
theorem FT (h:i≠j):(t.set i x).getD j z=t.getD j z:=by
 rw[List.getD_eq_getElem?_getD,List.getElem?_set_ne (by omega),←List.getD_eq_getElem?_getD]
theorem V8:(t.set i x).set j y=two t i j x y:=by rw[two]
end
def qH (t:List ar) (i:Nat) (b d p:Int):ar:=((t.getD i aj).1,((t.getD i aj).2.1,((bif d==1 then IntKind.wrap .i64 ((t.getD i aj).2.2.1+1) else(t.getD i aj).2.2.1),(IntKind.wrap .i64 ((t.getD i aj).2.2.2.1+p),(IntKind.wrap .i64 ((t.getD i aj).2.2.2.2.1+1),(t.getD i aj).2.2.2.2.2++[b])))))
def jO (t:List ar) (j:Nat) (a d q:Int):ar:=((t.getD j aj).1,((t.getD j aj).2.1,((bif d==1 then(t.getD j aj).2.2.1 else IntKind.wrap .i64 ((t.getD j aj).2.2.1+1)),(IntKind.wrap .i64 ((t.getD j aj).2.2.2.1+q),((t.getD j aj).2.2.2.2.1,(t.getD j aj).2.2.2.2.2++[a])))))
def qI (t:List ar) (a b d p q:Int):List ar:=two t (aw t a).toNat (aw t b).toNat (qH t (aw t a).toNat b d p) (jO t (aw t b).toNat a d q)
def FU (t:List ar) (a b d p q:Int):Bool:=ay t&&(decide (aw t a≥0)&&(decide (aw t b≥0)&&((aw t a != aw t b)&&(hY d 1 2&&(hY p 0 1000&&hY q 0 1000)))))
def rh (t:List ar) (a b d p q:Int):Bool:=FU t a b d p q&&ay (qI t a b d p q)
def AN (t:List ar) (a b d p q:Int):List ar:=bif rh t a b d p q then qI t a b d p q else t
theorem sS {t:List ar} {a b d p q:Int} {N:Nat} (ha:aw t a≥0) (hb:aw t b≥0) (h:∀ x:ar,x∈t→x.met.length+1<N):∀ x:ar,x∈qI t a b d p q→x.met.length<N:=by
 intro x hx
 unfold qI two at hx
 rcases List.mem_or_eq_of_mem_set hx with hx |rfl
 ·rcases List.mem_or_eq_of_mem_set hx with hx |rfl
  ·have:=h x hx;omega
  ·have:=h _ (cY ha).1
   show((t.getD (aw t a).toNat aj).2.2.2.2.2++[b]).length<N
   rw[List.length_append];exact this
 ·have:=h _ (cY hb).1
  show((t.getD (aw t b).toNat aj).2.2.2.2.2++[a]).length<N
  rw[List.length_append];exact this
theorem ajX {N:Nat} {t:List ar} {a b d p q:Int} {kf:List ar→Bool→Option aa} (hl:t.length≤1048700) (hm:∀ x:ar,x∈t→x.met.length≤1048700∧x.met.length+1<N) (hN:t.length<N):Zb N t a b d p q kf=kf (AN t a b d p q) (rh t a b d p q):=by
 have hx:=au
 have hm1:∀ x∈t,x.met.length≤maxLen∧x.met.length<N:=fun x hx=>by have:=hm x hx;omega
 unfold Zb AN rh FU
 rw[qD hl (fun x hx=>(hm x hx).1) hN,jG (by omega) hN,jG (by omega) hN,kJ (by omega) hm1 hN]
 simp only[lR]
 cases ay t with
 |false=>rfl
 |true=>
  by_cases ha:aw t a≥0
  rotate_left
  ·rw[decide_eq_true (show aw t a<0 by omega),decide_eq_false ha];rfl
  by_cases hb:aw t b≥0
  rotate_left
  ·rw[decide_eq_false (show ¬aw t a<0 by omega),decide_eq_true ha,decide_eq_true (show aw t b<0 by omega),decide_eq_false hb];rfl
  have hT:∀ x:ar,x∈qI t a b d p q→x.met.length<N:=sS ha hb fun x hx=>(hm x hx).2
  have hT2:∀ x:ar,x∈qI t a b d p q→x.met.length<1048800:=sS ha hb fun x hx=>by have:=(hm x hx).1;omega
  obtain⟨i,hi,ei,_⟩:=bB (p:=fun x:ar=>x.1==a) (l:=t) (by unfold aw at ha;omega)
  obtain⟨j,hj,ej,_⟩:=bB (p:=fun x:ar=>x.1==b) (l:=t) (by unfold aw at hb;omega)
  have ei:aw t a=(i:Int):=ei
  have ej:aw t b=(j:Int):=ej
  unfold qI at hT hT2 ⊢
  rw[ei,ej] at hT hT2 ⊢
  simp only[Int.toNat_natCast] at hT hT2 ⊢
  rw[decide_eq_true (show(i:Int)≥0 by omega),decide_eq_true (show(j:Int)≥0 by omega),decide_eq_false (show ¬(i:Int)<0 by omega),decide_eq_false (show ¬(j:Int)<0 by omega)]
  simp only[Bool.not_true,cond_false,Bool.true_and]
  by_cases ru:i=j
  ·subst ru;simp
  have e1:((i:Int)==(j:Int))=false:=by simpa using fun e=>ru (by omega)
  have e2:((i:Int) != (j:Int))=true:=by simp only[bne,e1];rfl
  rw[e1,e2]
  cases hY d 1 2 with
  |false=>rfl
  |true=>
  cases hY p 0 1000 with
  |false=>rfl
  |true=>
  cases hY q 0 1000 with
  |false=>rfl
  |true=>
  have li:=(hm _ (List.getElem_mem hi)).1
  have lj:=(hm _ (List.getElem_mem hj)).1
  have gi:t.getD i aj=t[i]:=ah _ _ hi _
  have gj:t.getD j aj=t[j]:=ah _ _ hj _
  have b1:decide ((List.length (t.getD i aj).2.2.2.2.2+List.length [b])*1≤4398046511104)=true:=by rw[gi];exact decide_eq_true (by have:t[i].2.2.2.2.2.length≤1048700:=li;simp;omega)
  have b2:decide ((List.length (t.getD j aj).2.2.2.2.2+List.length [a])*1≤4398046511104)=true:=by rw[gj];exact decide_eq_true (by have:t[j].2.2.2.2.2.length≤1048700:=lj;simp;omega)
  simp only[FT ru,List.length_set,ak hi,ak hj,cond_true,cond_false,Bool.not_true,b1,b2,Nat.beq_refl,share,V8,xV,Oj ru hi,Ol hj,Om ru,On,Bool.true_and]
  have hW:(two t i j (qH t i b d p) (jO t j a d q)).length=t.length:=xV
  have key:Dr N t kf (two t i j (qH t i b d p) (jO t j a d q))=kf (bif ay (two t i j (qH t i b d p) (jO t j a d q)) then two t i j (qH t i b d p) (jO t j a d q) else t) (ay (two t i j (qH t i b d p) (jO t j a d q))):=by
   unfold Dr
   rw[kJ (by omega) (fun x hx=>⟨by have:=hT2 x hx;omega,hT x hx⟩) (by omega)]
   cases ay (two t i j (qH t i b d p) (jO t j a d q)) with
   |false=>simp only[Bool.not_false,cond_true,cond_false];rw[qD hl (fun x hx=>(hm x hx).1) hN]
   |true=>rfl
  refine Eq.trans ?_ key
  unfold qH jO
  cases d==1<;>rfl
theorem ajY {N:Nat} {t:List ar} {a b d p q:Int} {kf:List ar→Bool→Option aa} (hl:t.length≤1048700) (hm:∀ x:ar,x∈t→x.met.length≤1048700∧x.met.length+1<N) (hN:t.length<N):Y3 N t a b d p q kf=kf (AN t a b d p q) (rh t a b d p q):=by
 have hx:=au
 have hm1:∀ x∈t,x.met.length≤maxLen∧x.met.length<N:=fun x hx=>by have:=hm x hx;omega
 unfold Y3 AN rh FU
 rw[JK hl (fun x hx=>(hm x hx).1) hN,mL (by omega) hN,mL (by omega) hN,lS (by omega) hm1 hN]
 simp only[nF]
 cases ay t with
 |false=>rfl
 |true=>
  by_cases ha:aw t a≥0
  rotate_left
  ·rw[decide_eq_true (show aw t a<0 by omega),decide_eq_false ha];rfl
  by_cases hb:aw t b≥0
  rotate_left
  ·rw[decide_eq_false (show ¬aw t a<0 by omega),decide_eq_true ha,decide_eq_true (show aw t b<0 by omega),decide_eq_false hb];rfl
  have hT:∀ x:ar,x∈qI t a b d p q→x.met.length<N:=sS ha hb fun x hx=>(hm x hx).2
  have hT2:∀ x:ar,x∈qI t a b d p q→x.met.length<1048800:=sS ha hb fun x hx=>by have:=(hm x hx).1;omega
  obtain⟨i,hi,ei,_⟩:=bB (p:=fun x:ar=>x.1==a) (l:=t) (by unfold aw at ha;omega)
  obtain⟨j,hj,ej,_⟩:=bB (p:=fun x:ar=>x.1==b) (l:=t) (by unfold aw at hb;omega)
  have ei:aw t a=(i:Int):=ei
  have ej:aw t b=(j:Int):=ej
  unfold qI at hT hT2 ⊢
  rw[ei,ej] at hT hT2 ⊢
  simp only[Int.toNat_natCast] at hT hT2 ⊢
  rw[decide_eq_true (show(i:Int)≥0 by omega),decide_eq_true (show(j:Int)≥0 by omega),decide_eq_false (show ¬(i:Int)<0 by omega),decide_eq_false (show ¬(j:Int)<0 by omega)]
  simp only[Bool.not_true,cond_false,Bool.true_and]
  by_cases ru:i=j
  ·subst ru;simp
  have e1:((i:Int)==(j:Int))=false:=by simpa using fun e=>ru (by omega)
  have e2:((i:Int) != (j:Int))=true:=by simp only[bne,e1];rfl
  rw[e1,e2]
  cases hY d 1 2 with
  |false=>rfl
  |true=>
  cases hY p 0 1000 with
  |false=>rfl
  |true=>
  cases hY q 0 1000 with
  |false=>rfl
  |true=>
  have li:=(hm _ (List.getElem_mem hi)).1
  have lj:=(hm _ (List.getElem_mem hj)).1
  have gi:t.getD i aj=t[i]:=ah _ _ hi _
  have gj:t.getD j aj=t[j]:=ah _ _ hj _
  have b1:decide ((List.length (t.getD i aj).2.2.2.2.2+List.length [b])*1≤4398046511104)=true:=by rw[gi];exact decide_eq_true (by have:t[i].2.2.2.2.2.length≤1048700:=li;simp;omega)
  have b2:decide ((List.length (t.getD j aj).2.2.2.2.2+List.length [a])*1≤4398046511104)=true:=by rw[gj];exact decide_eq_true (by have:t[j].2.2.2.2.2.length≤1048700:=lj;simp;omega)
  have hnb:Nat.beq i j=false:=by
   cases h:Nat.beq i j with
   |false=>rfl
   |true=>exact absurd (Nat.eq_of_beq_eq_true h) ru
  have hW:(two t i j (qH t i b d p) (jO t j a d q)).length=t.length:=xV
  have key:(Ap N (two t i j (qH t i b d p) (jO t j a d q)) (fun(Ju:Bool)=>
       bif (!Ju) then
        RK N t (fun(Jv:(List QT))=>
         kf Jv false)
       else
        kf (two t i j (qH t i b d p) (jO t j a d q)) true))=kf (bif ay (two t i j (qH t i b d p) (jO t j a d q)) then two t i j (qH t i b d p) (jO t j a d q) else t) (ay (two t i j (qH t i b d p) (jO t j a d q))):=by
   rw[lS (by omega) (fun x hx=>⟨by have:=hT2 x hx;omega,hT x hx⟩) (by omega)]
   cases ay (two t i j (qH t i b d p) (jO t j a d q)) with
   |false=>simp only[Bool.not_false,cond_true,cond_false];rw[JK hl (fun x hx=>(hm x hx).1) hN]
   |true=>rfl
  refine Eq.trans ?_ key
  simp only[Jt,Int.toNat_natCast,hnb,Bool.not_false,Bool.and_true,FT ru,List.length_set,ak hi,ak hj,cond_true,cond_false,Bool.not_true,b1,b2,Nat.beq_refl,share,V8,xV,Oj ru hi,Ol hj,Om ru,On,Bool.true_and]
  unfold qH jO
  cases d==1<;>rfl
end Go.Pv.R
namespace Go.Pv
set_option linter.unusedVariables false
theorem Il {α β:Type} {f:α→β} {p:β→Bool}:∀ (l:List α) (i:Nat),hJ p (l.map f) i=hJ (fun x=>p (f x)) l i
 |[],_=>rfl
 |x::r,i=>by
  simp only[List.map_cons,hJ,Il r]
theorem uH {α β:Type} {c:Nat→α→Bool} {f:Nat→α→β}:∀ (l:List α) (i:Nat),(gh c f l i).length=0→∀ (j:Nat) (h:j<l.length),c (i+j) l[j]=false
 |[],i,_,j,h=>by simp at h
 |x::r,i,hl,j,h=>by
  simp only[gh] at hl
  cases hc:c i x with
  |true=>rw[hc] at hl;simp at hl
  |false=>
   rw[hc,cond_false] at hl
   cases j with
   |zero=>exact hc
   |succ j=>have:=uH r (i+1) hl j (by simpa using h);rw[show i+(j+1)=i+1+j by omega];exact this
end Go.Pv
namespace Go.Pv.R
set_option linter.unusedVariables false
set_option linter.unusedSimpArgs false
theorem ZY {l m:List aR} {id:Int} (h:l.map (fun x:aR=>x.1)=m.map fun x:aR=>x.1):cw l id=cw m id:=by
 unfold cw fO
 have e:∀ l:List aR,hJ (fun x:aR=>x.1==id) l 0=hJ (fun y:Int=>y==id) (l.map fun x:aR=>x.1) 0:=fun l=>(Il (f:=fun x:aR=>x.1) (p:=fun y:Int=>y==id) l 0).symm
 rw[e l,e m,h]
theorem ajZ {s:List Int} {a b:Int} (h:qF s):dt (kV (s++[a,b]))=jJ (jJ s a) b:=by
 obtain⟨h1,h2⟩:=uE (kV (s++[a,b])) (FE _)
 refine tM h1 (il (il h)) fun x=>?_
 rw[h2,AH,jK,jK]
 simp only[List.mem_append,List.mem_cons,List.not_mem_nil,or_false]
 constructor
 ·rintro(h |h |h)<;>simp[h]
 ·rintro(h |h |h)<;>simp[h]
theorem qJ {t:List ar} {a b d p q:Int} (h:rh t a b d p q=true):aw t a≥0∧aw t b≥0:=by
 unfold rh FU at h
 simp only[Bool.and_eq_true,decide_eq_true_eq] at h
 exact⟨h.1.2.1,h.1.2.2.1⟩
theorem ad2 {t:List ar} {a b d p q:Int}:(AN t a b d p q).length=t.length:=by
 unfold AN
 cases rh t a b d p q with
 |false=>rfl
 |true=>exact xV
theorem ad3 {t:List ar} {a b d p q:Int} {M:Nat} (h:∀ x:ar,x∈t→x.met.length≤M):∀ x:ar,x∈AN t a b d p q→x.met.length≤M+1:=by
 intro x hx
 unfold AN at hx
 cases hb:rh t a b d p q with
 |false=>rw[hb,cond_false] at hx;have:=h x hx;omega
 |true=>
  rw[hb,cond_true] at hx
  have:=sS (N:=M+2) (qJ hb).1 (qJ hb).2 (fun x hx=>by have:=h x hx;omega) x hx
  omega
def ad4 (js:List aR) (k:Nat) (a b:Int):List aR:=js.set k ((js.getD k cg).1,((js.getD k cg).2.1,jJ (jJ (js.getD k cg).2.2 a) b))
theorem ad5 {js:List aR} {k:Nat} {a b:Int} (hk:k<js.length):(ad4 js k a b).map (fun x:aR=>x.1)=js.map fun x:aR=>x.1:=by
 unfold ad4
 rw[List.map_set]
 apply List.ext_getElem (by simp)
 intro i h1 h2
 rw[List.getElem_set]
 split
 ·rename_i e
  subst e
  rw[ah _ _ hk]
  simp
 ·rfl
theorem ad6 {js:List aR} {k:Nat} {a b:Int} {M:Nat} (hk:k<js.length) (h:∀ x:aR,x∈js→qF x.2.2∧x.2.2.length≤M):∀ x:aR,x∈ad4 js k a b→qF x.2.2∧x.2.2.length≤M+2:=by
 intro x hx
 unfold ad4 at hx
 rcases List.mem_or_eq_of_mem_set hx with hx |rfl
 ·have:=h x hx;exact⟨this.1,by omega⟩
 ·have:=h (js.getD k cg) (by rw[ah _ _ hk];exact List.getElem_mem hk)
  have l1:=oQ (js.getD k cg).2.2 a
  have l2:=oQ (jJ (js.getD k cg).2.2 a) b
  refine⟨il (il this.1),?_⟩
  show(jJ (jJ (js.getD k cg).2.2 a) b).length≤M+2
  omega
def oY (c:aF) (i:Nat):eQ:=c.2.2.2.2.1.getD i gQ
def ef (c:aF) (i:Nat):Int:=c.2.2.2.1.getD i 0
def uI (c:aF) (i:Nat) (x:bY) (s:aF):Bool:=rh s.1 x.1 x.2 (ofM (oY c i)) (oY c i).2.1 (oY c i).2.2
def sU (c:aF) (i:Nat) (x:bY) (s:aF):aF:=(AN s.1 x.1 x.2 (ofM (oY c i)) (oY c i).2.1 (oY c i).2.2,(ad4 s.2.1 (cw s.2.1 (ef c i)).toNat x.1 x.2,s.2.2))
def bU (c:aF):List bY→Nat→aF→Bool→aF×Bool
 |[],_,s,ok=>(s,ok)
 |x::r,i,s,ok=>bU c r (i+1) (sU c i x s) (ok&&uI c i x s)
structure lW (c:aF):Prop where
 t10:c.1.length≤10
 tm:∀ x:ar,x∈c.1→x.met.length≤20
 SF:c.2.1.length≤10
 js:∀ x:aR,x∈c.2.1→qF x.2.2∧x.2.2.length≤99
 ZZ:c.2.2.1.length≤10
 sl:c.2.2.2.1.length=c.2.2.1.length
 bl:c.2.2.2.2.1.length=c.2.2.1.length
 sf:∀ i,i<c.2.2.1.length→cw c.2.1 (ef c i)≥0
 bb:∀ i,i<c.2.2.1.length→bM (oY c i)=true
structure dw (c:aF) (i:Nat) (s:aF):Prop where
 tl:s.1.length=c.1.length
 tm:∀ x:ar,x∈s.1→x.met.length≤20+i
 ji:s.2.1.map (fun x:aR=>x.1)=c.2.1.map fun x:aR=>x.1
 js:∀ x:aR,x∈s.2.1→qF x.2.2∧x.2.2.length≤99+2*i
 re:s.2.2=c.2.2
theorem dw.arJ {c s:aF} {i:Nat} (h:dw c i s):s.2.1.length=c.2.1.length:=by
 have:=congrArg List.length h.ji
 simpa using this
theorem dw.fjd {c s:aF} {i:Nat} (h:dw c i s) (id:Int):cw s.2.1 id=cw c.2.1 id:=ZY h.ji
theorem vN {c s:aF} {i:Nat} {x:bY} (hc:lW c) (hi:i<c.2.2.1.length) (h:dw c i s):dw c (i+1) (sU c i x s):=by
 have hf:=hc.sf i hi
 rw[←h.fjd] at hf
 have hk:=(sJ hf).2
 exact⟨by rw[←h.tl];exact ad2,fun y hy=>by have:=ad3 h.tm y hy;omega,by rw[←h.ji];exact ad5 hk,fun y hy=>by have:=ad6 hk h.js y hy;exact⟨this.1,by omega⟩,h.re⟩
theorem qK {c:aF} (hc:lW c):∀ (r:List bY) (i:Nat) (s:aF) (ok:Bool),i+r.length=c.2.2.1.length→dw c i s→dw c c.2.2.1.length (bU c r i s ok).1
 |[],i,s,ok,h,hs=>by
  simp at h
  subst h
  exact hs
 |x::r,i,s,ok,h,hs=>by
  simp only[List.length_cons] at h
  exact qK hc r (i+1) _ _ (by omega) (vN hc (by omega) hs)
theorem qL {c:aF}:∀ (r:List bY) (i:Nat) (s:aF),(bU c r i s false).2=false
 |[],i,s=>rfl
 |x::r,i,s=>by
  unfold bU
  rw[Bool.false_and]
  exact qL r (i+1) _
theorem rk {N:Nat} {c:aF} {k:aF→Bool→Option aa} {body:Nat→bY→aF→Bool→(aF→Bool→Option aa)→Option aa}
  (hb:∀ (i:Nat) (x:bY) (s:aF) (ok:Bool) (next:aF→Bool→Option aa),i<c.2.2.1.length→dw c i s→body i x s ok next=next (sU c i x s) (ok&&uI c i x s)) (hc:lW c):∀ (r:List bY) (i:Nat) (s:aF) (ok:Bool),i+r.length=c.2.2.1.length→dw c i s→He body k r i s ok=k (bU c r i s ok).1 (bU c r i s ok).2
 |[],i,s,ok,h,hs=>rfl
 |x::r,i,s,ok,h,hs=>by
  simp only[List.length_cons] at h
  simp only[He]
  rw[hb i x s ok _ (by omega) hs]
  exact rk (N:=N) hb hc r (i+1) _ _ (by omega) (vN hc (by omega) hs)
theorem rn {N:Nat} {c:aF} {k:aF→Option aa} {no:Option aa} {body:Nat→bY→aF→(aF→Option aa)→Option aa}
  (hb:∀ (i:Nat) (x:bY) (s:aF) (next:aF→Option aa),i<c.2.2.1.length→dw c i s→body i x s next=bif uI c i x s then next (sU c i x s) else no) (hc:lW c):∀ (r:List bY) (i:Nat) (s:aF),i+r.length=c.2.2.1.length→dw c i s→bI body k r i s=bif (bU c r i s true).2 then k (bU c r i s true).1 else no
 |[],i,s,h,hs=>rfl
 |x::r,i,s,h,hs=>by
  simp only[List.length_cons] at h
  simp only[bI]
  rw[hb i x s _ (by omega) hs]
  unfold bU
  rw[Bool.true_and]
  cases uI c i x s with
  |false=>rw[qL];rfl
  |true=>exact rn (N:=N) hb hc r (i+1) _ (by omega) (vN hc (by omega) hs)
theorem Df {N:Nat} {c s:aF} {i:Nat} {x:bY} {next:aF→Bool→Option aa} {ok:Bool} (hc:lW c) (aw4:200<N) (hi:i<c.2.2.1.length) (h:dw c i s):
  (bif (aQ (i:Int) (List.length c.2.2.2.2.1)) then
     Za N [(List.getD c.2.2.2.2.1 (Int.toNat (i:Int)) gQ)] (fun(Fj:Int)=>
      Zb N s.1 x.1 x.2 Fj (List.getD c.2.2.2.2.1 (Int.toNat (i:Int)) gQ).2.1 (List.getD c.2.2.2.2.1 (Int.toNat (i:Int)) gQ).2.2 (fun(sF:(List QT)) (pU:Bool)=>
       bif ok then
        bif (aQ (i:Int) (List.length c.2.2.2.1)) then
         Ff N s.2.1 (List.getD c.2.2.2.1 (Int.toNat (i:Int)) (0:Int)) (fun(fb:Int)=>
          bif (aQ fb (List.length s.2.1)) then
           sD N (List.getD s.2.1 (Int.toNat fb) cg).2.2 x.1 (fun(Fl:(List Int))=>
            sD N Fl x.2 (fun(xK:(List Int))=>
             bif (aQ fb (List.length s.2.1)) then
              next (sF,((List.set s.2.1 (Int.toNat fb) ((List.getD s.2.1 (Int.toNat fb) cg).1,((List.getD s.2.1 (Int.toNat fb) cg).2.1,xK))),s.2.2)) pU
             else none))
          else none)
        else none
       else
        bif (aQ (i:Int) (List.length c.2.2.2.1)) then
         Ff N s.2.1 (List.getD c.2.2.2.1 (Int.toNat (i:Int)) (0:Int)) (fun(fc:Int)=>
          bif (aQ fc (List.length s.2.1)) then
           sD N (List.getD s.2.1 (Int.toNat fc) cg).2.2 x.1 (fun(vw:(List Int))=>
            sD N vw x.2 (fun(xL:(List Int))=>
             bif (aQ fc (List.length s.2.1)) then
              next (sF,((List.set s.2.1 (Int.toNat fc) ((List.getD s.2.1 (Int.toNat fc) cg).1,((List.getD s.2.1 (Int.toNat fc) cg).2.1,xL))),s.2.2)) false
             else none))
          else none)
        else none))
    else none)=next (sU c i x s) (ok&&uI c i x s):=by
 have hx:=au
 have ZZ:=hc.ZZ
 have t10:=hc.t10
 have SF:=hc.SF
 have tl:=h.tl
 have jl:=h.arJ
 have hf:=hc.sf i hi
 rw[←h.fjd] at hf
 obtain⟨f1,f2⟩:=sJ hf
 have eb:List.getD c.2.2.2.2.1 (Int.toNat (i:Int)) gQ=oY c i:=rfl
 have es:List.getD c.2.2.2.1 (Int.toNat (i:Int)) (0:Int)=ef c i:=rfl
 have hj:=h.js (List.getD s.2.1 (cw s.2.1 (ef c i)).toNat cg) (by rw[ah _ _ f2];exact List.getElem_mem f2)
 have l1:=oQ (List.getD s.2.1 (cw s.2.1 (ef c i)).toNat cg).2.2 x.1
 rw[eb,es,ak (show i<c.2.2.2.2.1.length by rw[hc.bl];exact hi),ak (show i<c.2.2.2.1.length by rw[hc.sl];exact hi),cond_true,ad0 (by omega) (hc.bb i hi),ajX (by omega) (fun y hy=>by have:=h.tm y hy;omega) (by omega)]
 simp only[cond_true,VK (N:=N) (l:=s.2.1) (id:=ef c i) (by omega) (by omega),f1,JL (N:=N) (l:=(List.getD s.2.1 (cw s.2.1 (ef c i)).toNat cg).2.2) (n:=x.1) (by omega) (by omega),JL (N:=N) (l:=jJ (List.getD s.2.1 (cw s.2.1 (ef c i)).toNat cg).2.2 x.1) (n:=x.2) (by omega) (by omega)]
 cases ok with
 |true=>rfl
 |false=>rfl
theorem Dg {N:Nat} {c s:aF} {i:Nat} {x:bY} {next:aF→Option aa} {kf:aF→Bool→Option aa} (ho:bh c N) (hc:lW c) (aw4:200<N) (hi:i<c.2.2.1.length) (h:dw c i s):
  (bif (aQ (i:Int) (List.length c.2.2.2.2.1)) then
     Y2 N [(List.getD c.2.2.2.2.1 (Int.toNat (i:Int)) gQ)] (fun(E5:Int)=>
      Y3 N s.1 x.1 x.2 E5 (List.getD c.2.2.2.2.1 (Int.toNat (i:Int)) gQ).2.1 (List.getD c.2.2.2.2.1 (Int.toNat (i:Int)) gQ).2.2 (fun(E6:(List QT)) (E7:Bool)=>
       bif (!E7) then
        H5 N c (fun(E8:QC)=>
         kf E8 false)
       else
        bif (aQ (i:Int) (List.length c.2.2.2.1)) then
         RZ N s.2.1 (List.getD c.2.2.2.1 (Int.toNat (i:Int)) (0:Int)) (fun(cP:Int)=>
          bif (aQ cP (List.length s.2.1)) then
           bif (decide ((List.length (List.getD s.2.1 (Int.toNat cP) cg).2.2+List.length [x.1,x.2])*1≤4398046511104)) then
            NL N ((List.getD s.2.1 (Int.toNat cP) cg).2.2++[x.1,x.2]) (fun(E9:(List Int))=>
             Y4 N E9 (fun(Fa:(List Int))=>
              bif (aQ cP (List.length s.2.1)) then
               bif (Nat.beq (Int.toNat cP) (Int.toNat cP)) then
                next (E6,((List.set s.2.1 (Int.toNat cP) ((List.getD s.2.1 (Int.toNat cP) cg).1,((List.getD s.2.1 (Int.toNat cP) cg).2.1,Fa))),s.2.2))
               else none
              else none))
           else none
          else none)
        else none))
    else none)=bif uI c i x s then next (sU c i x s) else kf c false:=by
 have hx:=au
 have ZZ:=hc.ZZ
 have t10:=hc.t10
 have SF:=hc.SF
 have tl:=h.tl
 have jl:=h.arJ
 have hf:=hc.sf i hi
 rw[←h.fjd] at hf
 obtain⟨f1,f2⟩:=sJ hf
 have eb:List.getD c.2.2.2.2.1 (Int.toNat (i:Int)) gQ=oY c i:=rfl
 have es:List.getD c.2.2.2.1 (Int.toNat (i:Int)) (0:Int)=ef c i:=rfl
 have hj:=h.js (List.getD s.2.1 (cw s.2.1 (ef c i)).toNat cg) (by rw[ah _ _ f2];exact List.getElem_mem f2)
 have ed:decide ((List.length (List.getD s.2.1 (cw s.2.1 (ef c i)).toNat cg).2.2+List.length [x.1,x.2])*1≤4398046511104)=true:=decide_eq_true (by simp only[List.length_cons,List.length_nil];omega)
 rw[eb,es,ak (show i<c.2.2.2.2.1.length by rw[hc.bl];exact hi),ak (show i<c.2.2.2.1.length by rw[hc.sl];exact hi),cond_true,ad1 (by omega) (hc.bb i hi),ajY (by omega) (fun y hy=>by have:=h.tm y hy;omega) (by omega)]
 simp only[cond_true,mQ ho,VL (N:=N) (l:=s.2.1) (id:=ef c i) (by omega) (by omega),f1,ed,Nat.beq_refl]
 rw[JM (by simp only[List.length_append,List.length_cons,List.length_nil];omega),VS,ajZ hj.1]
 show(bif !uI c i x s then kf c false else next (sU c i x s))=_
 cases uI c i x s<;>rfl
end Go.Pv.R
namespace Go.Pv.R
set_option linter.unusedVariables false
set_option linter.unusedSimpArgs false
theorem Oo {s:List Int} (h:NX s=true):qF s∧s.length≤99:=by
 unfold NX at h
 rw[dN] at h
 have step:∀ (i:Nat) (hi:i<s.length),(1≤s[i]∧s[i]≤99)∧(0<i→s.getD (i - 1) 0<s[i]):=fun i hi=>by
  have:=h i hi
  rw[Nat.zero_add] at this
  simp only[Bool.and_eq_true,Bool.or_eq_true,decide_eq_true_eq,tJ] at this
  exact⟨this.1,fun h0=>by omega⟩
 have mono:∀ (i:Nat) (hi:i<s.length) (j:Nat) (hj:j<i),s[j]'(by omega)<s[i]:=by
  intro i
  induction i with
  |zero=>intro hi j hj;omega
  |succ i ih=>
   intro hi j hj
   have h1:=(step (i+1) hi).2 (by omega)
   rw[Nat.add_sub_cancel,ah _ _ (show i<s.length by omega)] at h1
   rcases Nat.lt_or_eq_of_le (Nat.le_of_lt_succ hj) with h2 |rfl
   ·have:=ih (by omega) j h2;omega
   ·exact h1
 have ha:qF s:=List.pairwise_iff_getElem.2 fun j i hj hi kS=>mono i hi j kS
 refine⟨ha,?_⟩
 have hn:s.Nodup:=ha.imp fun h=>by omega
 have:=oX s ((List.range 100).map fun n:Nat=>(n:Int)) hn fun x hx=>by
  obtain⟨i,hi,rfl⟩:=List.mem_iff_getElem.1 hx
  have:=(step i hi).1
  exact List.mem_map.2 ⟨s[i].toNat,by rw[List.mem_range];omega,by omega⟩
 have h0:(0:Int)∉s:=fun hc=>by
  obtain⟨i,hi,e⟩:=List.mem_iff_getElem.1 hc
  have:=(step i hi).1
  omega
 have:=oX (0::s) ((List.range 100).map fun n:Nat=>(n:Int)) (List.nodup_cons.2 ⟨h0,hn⟩) fun x hx=>by
  rcases List.mem_cons.1 hx with rfl |hx
  ·exact List.mem_map.2 ⟨0,by simp,rfl⟩
  ·obtain⟨i,hi,rfl⟩:=List.mem_iff_getElem.1 hx
   have:=(step i hi).1
   exact List.mem_map.2 ⟨s[i].toNat,by rw[List.mem_range];omega,by omega⟩
 simp only[List.length_cons,List.length_map,List.length_range] at this
 omega
theorem JQ {c:aF} (hc:bG c=true) (hr:c.2.2.1.length≠0) (hw:(aX c).length=0):lW c:=by
 obtain⟨l1,l2⟩:=nG hc
 unfold bG at hc
 simp only[Bool.and_eq_true,Bool.or_eq_true,decide_eq_true_eq] at hc
 obtain⟨ht,hj,_,_,_,hs,hb,_⟩:=hc
 have hs:fe c.1 c.2.2.1=true∧c9 c.1 c.2.1 c.2.2.1 c.2.2.2.1=true:=hs.resolve_left hr
 obtain⟨_,hs⟩:=hs
 unfold c9 at hs
 simp only[Bool.and_eq_true,decide_eq_true_eq] at hs
 obtain⟨_,_,hs⟩:=hs
 rw[dN] at hs
 unfold ay at ht
 simp only[Bool.and_eq_true,decide_eq_true_eq] at ht
 obtain⟨t10,htp,_⟩:=ht
 unfold bw at hj
 simp only[Bool.and_eq_true,decide_eq_true_eq] at hj
 obtain⟨SF,hjp⟩:=hj
 rw[dN] at htp hjp hb
 have sP:∀ i,i<c.2.2.1.length→cw c.2.1 (ef c i)≥0∧jd (c.2.2.2.1.take i) (ef c i)=false:=fun i hi=>by
  have:=hs i hi
  rw[Nat.zero_add] at this
  unfold q9 at this
  simp only[Bool.and_eq_true,decide_eq_true_eq,Bool.not_eq_true'] at this
  exact⟨this.1,this.2.1⟩
 have hn:c.2.2.2.1.Nodup:=List.pairwise_iff_getElem.2 fun i j hi hj ru e=>by
  have h1:=(sP j (by omega)).2
  have h2:jd (c.2.2.2.1.take j) (ef c j)=true:=by
   rw[la]
   unfold ef
   rw[ah _ _ hj,←e]
   exact List.mem_iff_getElem.2 ⟨i,by rw[List.length_take];omega,by rw[List.getElem_take]⟩
  rw[h1] at h2
  cases h2
 have hle:=oX c.2.2.2.1 (c.2.1.map fun x:aR=>x.1) hn fun x hx=>by
  obtain⟨i,hi,rfl⟩:=List.mem_iff_getElem.1 hx
  have h1:=(sP i (by omega)).1
  unfold ef at h1
  rw[ah _ _ hi] at h1
  obtain⟨k,hk,e,h2,_⟩:=bB (p:=fun x:aR=>x.1==c.2.2.2.1[i]) (l:=c.2.1) (by unfold cw at h1;omega)
  exact List.mem_map.2 ⟨c.2.1[k],List.getElem_mem hk,by simpa using h2⟩
 rw[List.length_map] at hle
 refine⟨t10,fun x hx=>?_,SF,fun x hx=>?_,by omega,l1,l2,fun i hi=>(sP i hi).1,fun i hi=>?_⟩
 ·obtain⟨i,hi,rfl⟩:=List.mem_iff_getElem.1 hx
  have:=htp i hi
  unfold iU at this
  simp only[Bool.and_eq_true,decide_eq_true_eq] at this
  exact this.2.2.2.2.2.1
 ·obtain⟨i,hi,rfl⟩:=List.mem_iff_getElem.1 hx
  have:=hjp i hi
  unfold mO at this
  simp only[Bool.and_eq_true,decide_eq_true_eq] at this
  exact Oo this.2.2.2
 ·have mY:i<c.2.2.2.2.1.length:=by omega
  have h1:=uH c.2.2.2.2.1 0 hw i mY
  have h2:=hb i mY
  rw[Nat.zero_add] at h2
  unfold jH at h2
  simp only[h1,Bool.false_or,Bool.and_eq_true] at h2
  unfold oY
  rw[ah _ _ mY]
  exact h2.1
def Hj (c s:aF):aF:=(s.1,(s.2.1,([],([],([],(s.2.2.2.2.2.1,IntKind.wrap .i64 (c.2.2.2.2.2.2+(List.length c.2.2.1:Int))))))))
def jP (c:aF):Bool:=bG c&&(decide (c.2.2.1.length≠0)&&decide ((aX c).length=0))
def dp (c:aF):aF×Bool:=bif jP c&&(bU c c.2.2.1 0 c true).2 then(ff c (Hj c (bU c c.2.2.1 0 c true).1) 5 0,dW c (Hj c (bU c c.2.2.1 0 c true).1) 5 0) else(c,false)
theorem oZ {c:aF} (hc:lW c):dw c 0 c:=⟨rfl,fun x hx=>by have:=hc.tm x hx;omega,rfl,fun x hx=>by have:=hc.js x hx;exact⟨this.1,by omega⟩,rfl⟩
theorem V9 {c s:aF} {N:Nat} (h:bh c N) (hc:lW c) (hs:dw c c.2.2.1.length s) (hN:200<N):bh (Hj c s) N:=by
 have hx:=au
 have ZZ:=hc.ZZ
 have t10:=hc.t10
 have SF:=hc.SF
 have tl:=hs.tl
 have jl:=hs.arJ
 have ht:∀ x:ar,x∈s.1→x.met.length≤40:=fun x hx=>by have:=hs.tm x hx;omega
 have hj:∀ x:aR,x∈s.2.1→x.2.2.length≤140:=fun x hx=>by have:=(hs.js x hx).2;omega
 have hre:s.2.2.2.2.2.1=c.2.2.2.2.2.1:=by rw[hs.re]
 exact⟨by show s.1.length≤_;omega,fun x hx=>⟨by have:=ht x hx;omega,by have:=ht x hx;omega⟩,by show s.1.length<_;omega,by show s.2.1.length≤_;omega,fun x hx=>⟨by have:=hj x hx;omega,by have:=hj x hx;omega⟩,by show s.2.1.length<_;omega,by show 0≤_;omega,by show 2*0<_;omega,by show 0≤_;omega,by show 0<_;omega,by show 0≤_;omega,by show 0<_;omega,by show s.2.2.2.2.2.1.length≤_;rw[hre];exact h.ml,by show s.2.2.2.2.2.1.length<_;rw[hre];exact h.mN,h.n8,by show s.1.length≤_;omega,fun x hx=>by have:=ht x hx;omega,by show s.2.1.length≤_;omega,fun x hx=>by have:=hj x hx;omega⟩
theorem Dz (n:Nat):decide ((n:Int)>(0:Int))=!decide (n=0):=by
 by_cases h:n=0
 ·rw[decide_eq_false (by omega),decide_eq_true h];rfl
 ·rw[decide_eq_true (by omega),decide_eq_false h];rfl
theorem arK {N:Nat} {c:aF} {kf:aF→Bool→Option aa} (h:bh c N) (hN:200<N) (hl:c.2.2.2.2.2.1.length+1<N):S27 N c kf=kf (dp c).1 (dp c).2:=by
 have hx:=au
 have hr:=h.rl
 have hr2:=h.rN
 unfold S27 dp jP
 rw[qE h,Du h]
 cases hc:bG c with
 |false=>rfl
 |true=>
  simp only[Bool.not_true,cond_false,Bool.true_and]
  unfold S94
  rw[Dz]
  by_cases b7:c.2.2.1.length=0
  ·rw[decide_eq_true b7,decide_eq_false (fun e=>e b7)];rfl
  ·rw[decide_eq_false b7,decide_eq_true b7]
   simp only[Bool.not_true,Bool.not_false,cond_false,Bool.true_and]
   rw[ajv h,Dz]
   by_cases hw:(aX c).length=0
   rotate_left
   ·rw[decide_eq_false hw];rfl
   ·rw[decide_eq_true hw]
    have ho:=JQ hc b7 hw
    have hi:=qK ho c.2.2.1 0 c true (by omega) (oZ ho)
    simp only[Bool.not_true,cond_false,Bool.true_and]
    rw[adx (by omega) (by omega),rk (N:=N) (c:=c) (fun i x s ok next hi hs=>Df ho hN hi hs) ho c.2.2.1 0 c true (by omega) (oZ ho)]
    refine(vJ (out:=Hj c (bU c c.2.2.1 0 c true).1) h (fun _=>V9 h ho hi hN) hN hl).trans ?_
    cases (bU c c.2.2.1 0 c true).2<;>rfl
theorem arL {N:Nat} {c:aF} {kf:aF→Bool→Option aa} (h:bh c N) (hN:200<N) (hl:c.2.2.2.2.2.1.length+1<N):I28 N c kf=kf (dp c).1 (dp c).2:=by
 have hx:=au
 have hr:=h.rl
 have hr2:=h.rN
 unfold I28 dp jP
 rw[mQ h,FA h]
 cases hc:bG c with
 |false=>rfl
 |true=>
  simp only[Bool.not_true,cond_false,Bool.true_and]
  unfold Vs
  rw[Dz]
  by_cases b7:c.2.2.1.length=0
  ·rw[decide_eq_true b7,decide_eq_false (fun e=>e b7)];rfl
  ·rw[decide_eq_false b7,decide_eq_true b7]
   simp only[Bool.not_true,Bool.not_false,cond_false,Bool.true_and]
   rw[ary h,Dz]
   by_cases hw:(aX c).length=0
   rotate_left
   ·rw[decide_eq_false hw]
    rfl
   ·rw[decide_eq_true hw]
    have ho:=JQ hc b7 hw
    have hi:=qK ho c.2.2.1 0 c true (by omega) (oZ ho)
    simp only[Bool.not_true,cond_false,Bool.true_and]
    rw[mQ h,adw (by omega) (by omega),rn (N:=N) (c:=c) (no:=kf c false) (fun i x s next hi hs=>Dg h ho hN hi hs) ho c.2.2.1 0 c (by omega) (oZ ho)]
    cases iR:(bU c c.2.2.1 0 c true).2 with
    |false=>rfl
    |true=>
     have hre:(bU c c.2.2.1 0 c true).1.2.2=c.2.2:=hi.re
     have e2:((bU c c.2.2.1 0 c true).1.1,((bU c c.2.2.1 0 c true).1.2.1,(([]:List bJ),(([]:List Int),(([]:List QB),((bU c c.2.2.1 0 c true).1.2.2.2.2.2.1,(IntKind.wrap .i64 ((bU c c.2.2.1 0 c true).1.2.2.2.2.2.2+(List.length c.2.2.1:Int)))))))))=Hj c (bU c c.2.2.1 0 c true).1:=by
      unfold Hj
      rw[hre]
     simp only[cond_true]
     rw[e2]
     exact tL (out:=Hj c (bU c c.2.2.1 0 c true).1) h (V9 h ho hi hN) (by show(bU c c.2.2.1 0 c true).1.2.2.2.2.2.1=_;rw[hre]) hN hl
end Go.Pv.R
namespace Go.Pv.R
set_option linter.unusedVariables false
set_option linter.unusedSimpArgs false
structure Small (c:aF):Prop where
 t10:c.1.length≤10
 tm:∀ x:ar,x∈c.1→x.met.length≤20
 SF:c.2.1.length≤10
 js:∀ x:aR,x∈c.2.1→x.2.2.length≤99
 ZZ:c.2.2.1.length≤10
 s10:c.2.2.2.1.length≤10
 b10:c.2.2.2.2.1.length≤10
 ad7:c.2.2.2.2.2.1.length≤200
theorem mV {c:aF} (hc:bG c=true):Small c:=by
 obtain⟨l1,l2⟩:=nG hc
 unfold bG at hc
 simp only[Bool.and_eq_true,Bool.or_eq_true,decide_eq_true_eq] at hc
 obtain⟨ht,hj,hm,_,_,hs,hb,_⟩:=hc
 unfold bW at hm
 simp only[Bool.and_eq_true,decide_eq_true_eq] at hm
 unfold ay at ht
 simp only[Bool.and_eq_true,decide_eq_true_eq] at ht
 obtain⟨t10,htp,_⟩:=ht
 unfold bw at hj
 simp only[Bool.and_eq_true,decide_eq_true_eq] at hj
 obtain⟨SF,hjp⟩:=hj
 rw[dN] at htp hjp
 have ZZ:c.2.2.1.length≤10:=by
  rcases hs with hs |hs
  ·omega
  ·have hs:c9 c.1 c.2.1 c.2.2.1 c.2.2.2.1=true:=hs.2
   unfold c9 at hs
   simp only[Bool.and_eq_true,decide_eq_true_eq] at hs
   obtain⟨_,_,hs⟩:=hs
   rw[dN] at hs
   have sP:∀ i,i<c.2.2.1.length→cw c.2.1 (ef c i)≥0∧jd (c.2.2.2.1.take i) (ef c i)=false:=fun i hi=>by
    have:=hs i hi
    rw[Nat.zero_add] at this
    unfold q9 at this
    simp only[Bool.and_eq_true,decide_eq_true_eq,Bool.not_eq_true'] at this
    exact⟨this.1,this.2.1⟩
   have hn:c.2.2.2.1.Nodup:=List.pairwise_iff_getElem.2 fun i j hi hj ru e=>by
    have h1:=(sP j (by omega)).2
    have h2:jd (c.2.2.2.1.take j) (ef c j)=true:=by
     rw[la]
     unfold ef
     rw[ah _ _ hj,←e]
     exact List.mem_iff_getElem.2 ⟨i,by rw[List.length_take];omega,by rw[List.getElem_take]⟩
    rw[h1] at h2
    cases h2
   have hle:=oX c.2.2.2.1 (c.2.1.map fun x:aR=>x.1) hn fun x hx=>by
    obtain⟨i,hi,rfl⟩:=List.mem_iff_getElem.1 hx
    have h1:=(sP i (by omega)).1
    unfold ef at h1
    rw[ah _ _ hi] at h1
    obtain⟨k,hk,e,h2,_⟩:=bB (p:=fun x:aR=>x.1==c.2.2.2.1[i]) (l:=c.2.1) (by unfold cw at h1;omega)
    exact List.mem_map.2 ⟨c.2.1[k],List.getElem_mem hk,by simpa using h2⟩
   rw[List.length_map] at hle
   omega
 refine⟨t10,fun x hx=>?_,SF,fun x hx=>?_,ZZ,by omega,by omega,hm.1⟩
 ·obtain⟨i,hi,rfl⟩:=List.mem_iff_getElem.1 hx
  have:=htp i hi
  unfold iU at this
  simp only[Bool.and_eq_true,decide_eq_true_eq] at this
  exact this.2.2.2.2.2.1
 ·obtain⟨i,hi,rfl⟩:=List.mem_iff_getElem.1 hx
  have:=hjp i hi
  unfold mO at this
  simp only[Bool.and_eq_true,decide_eq_true_eq] at this
  exact(Oo this.2.2.2).2
theorem Small.okC {c:aF} {N:Nat} (h:Small c) (hN:300<N):bh c N:=by
 have hx:=au
 obtain⟨h1,h2,h3,h4,h5,h6,h7,h8⟩:=h
 exact⟨by omega,fun x hx=>by have:=h2 x hx;omega,by omega,by omega,fun x hx=>by have:=h4 x hx;omega,by omega,by omega,by omega,by omega,by omega,by omega,by omega,by omega,by omega,by omega,by omega,fun x hx=>by have:=h2 x hx;omega,by omega,fun x hx=>by have:=h4 x hx;omega⟩
structure SG (c:aF) (N:Nat):Prop where
 ok:bh c N
 ok':bh c (N - 40)
 tb:c.1.length≤1048576
 tN:c.1.length+1<N
 jb:c.2.1.length≤1048576
 jN:c.2.1.length+1<N
 mN:c.2.2.2.2.2.1.length+1<N
 N2:200<N
theorem Small.evC {c:aF} {N:Nat} (h:Small c) (hN:400<N):SG c N:=
 ⟨h.okC (by omega),h.okC (by omega),by have:=h.t10;omega,by have:=h.t10;omega,by have:=h.SF;omega,by have:=h.SF;omega,by have:=h.ad7;omega,by omega⟩
def Z0 (b:Bool) (c:aF) (r:aF×Bool):aF×Bool:=bif b then r else(c,false)
def rp (c out:aF) (aZ dC:Int):aF×Bool:=(ff c out aZ dC,dW c out aZ dC)
def gV (c:aF) (e:QL):aF×Bool:=
 bif e.1==1 then Z0 (decide (c.2.2.1.length=0)) c (rp c (jY c e.2.1 e.2.2.1) 1 e.2.1)
 else bif e.1==2 then rp c (kr c e.2.1 e.2.2.1) 2 e.2.1
 else bif e.1==3 then cp c
 else bif e.1==4 then Z0 (nH c e.2.2.2 e.2.1 e.2.2.1) c (rp c (oP c e.2.2.2 e.2.1 e.2.2.1) 4 (ra c e.2.2.2 e.2.1 e.2.2.1).1)
 else bif e.1==5 then dp c
 else bif e.1==6 then Z0 (jL c e.2.1) c (rp c (iO c e.2.1) 6 e.2.1)
 else(c,false)
theorem Im {b:Bool} {c:aF} {r:aF×Bool} {k:aF→Bool→Option aa}:(bif b then k r.1 r.2 else k c false)=k (Z0 b c r).1 (Z0 b c r).2:=by
 unfold Z0
 cases b<;>rfl
theorem arM {N:Nat} {c:aF} {e:QL} {kf:aF→Bool→Option aa} (h:SG c N):S60 N c e kf=kf (gV c e).1 (gV c e).2:=by
 unfold S60 gV
 cases e.1==1
 rotate_left
 ·exact(ajI h.ok h.tb h.tN h.N2 h.mN).trans (Im (c:=c) (r:=rp c (jY c e.2.1 e.2.2.1) 1 e.2.1) (k:=kf))
 cases e.1==2
 rotate_left
 ·exact ajJ h.ok h.jb h.jN h.N2 h.mN
 cases e.1==3
 rotate_left
 ·exact arH h.ok h.ok' h.N2 h.mN
 cases e.1==4
 rotate_left
 ·exact(ajD h.ok h.N2 h.mN).trans (Im (c:=c) (r:=rp c (oP c e.2.2.2 e.2.1 e.2.2.1) 4 (ra c e.2.2.2 e.2.1 e.2.2.1).1) (k:=kf))
 cases e.1==5
 rotate_left
 ·exact arK h.ok h.N2 h.mN
 cases e.1==6
 rotate_left
 ·exact(ajG h.ok h.N2 h.mN).trans (Im (c:=c) (r:=rp c (iO c e.2.1) 6 e.2.1) (k:=kf))
 ·simp only[cond_false]
  rw[qE h.ok]
theorem arN {N:Nat} {c:aF} {e:QL} {kf:aF→Bool→Option aa} (h:SG c N):I13 N c e kf=kf (gV c e).1 (gV c e).2:=by
 unfold I13 gV
 cases e.1==1
 rotate_left
 ·exact(arC h.ok h.tb h.tN h.N2 h.mN).trans (Im (c:=c) (r:=rp c (jY c e.2.1 e.2.2.1) 1 e.2.1) (k:=kf))
 cases e.1==2
 rotate_left
 ·exact arD h.ok h.jb h.jN h.N2 h.mN
 cases e.1==3
 rotate_left
 ·exact arI h.ok h.ok' h.N2 h.mN
 cases e.1==4
 rotate_left
 ·exact(arz h.ok h.N2 h.mN).trans (Im (c:=c) (r:=rp c (oP c e.2.2.2 e.2.1 e.2.2.1) 4 (ra c e.2.2.2 e.2.1 e.2.2.1).1) (k:=kf))
 cases e.1==5
 rotate_left
 ·exact arL h.ok h.N2 h.mN
 cases e.1==6
 rotate_left
 ·exact(arB h.ok h.N2 h.mN).trans (Im (c:=c) (r:=rp c (iO c e.2.1) 6 e.2.1) (k:=kf))
 ·simp only[cond_false]
  rw[mQ h.ok]
def Kept (c:aF) (r:aF×Bool):Prop:=(r.1=c∧r.2=false)∨(bG r.1=true∧r.2=true)
theorem ku (c out:aF) (aZ dC:Int):Kept c (rp c out aZ dC):=by
 unfold rp Kept ff
 cases hd:dW c out aZ dC with
 |false=>exact .inl ⟨rfl,rfl⟩
 |true=>
  unfold dW at hd
  simp only[Bool.and_eq_true] at hd
  exact .inr ⟨hd.2.2,rfl⟩
theorem sV {b:Bool} {c:aF} {r:aF×Bool} (h:Kept c r):Kept c (Z0 b c r):=by
 unfold Z0
 cases b with
 |false=>exact .inl ⟨rfl,rfl⟩
 |true=>exact h
theorem Oq (c:aF) (e:QL):Kept c (gV c e):=by
 unfold gV
 cases e.1==1
 rotate_left
 ·exact sV (ku _ _ _ _)
 cases e.1==2
 rotate_left
 ·exact ku _ _ _ _
 cases e.1==3
 rotate_left
 ·show Kept c (cp c)
  unfold cp
  cases jM c.1 with
  |none=>exact .inl ⟨rfl,rfl⟩
  |some ps=>
   simp only[]
   cases gU c.1 c.2.1 ps with
   |none=>exact .inl ⟨rfl,rfl⟩
   |some ss=>exact sV (ku _ _ _ _)
 cases e.1==4
 rotate_left
 ·exact sV (ku _ _ _ _)
 cases e.1==5
 rotate_left
 ·exact sV (ku _ _ _ _)
 cases e.1==6
 rotate_left
 ·exact sV (ku _ _ _ _)
 ·exact .inl ⟨rfl,rfl⟩
def runM (c:aF) (l:List QL):aF:=l.foldl (fun s e=>(gV s e).1) c
def vO (c s:aF):Prop:=s=c∨bG s=true
theorem vO.GY {c s:aF} (e:QL) (h:vO c s):vO c (gV s e).1:=by
 rcases Oq s e with⟨h1,_⟩ |⟨h1,_⟩
 ·rw[h1];exact h
 ·exact .inr h1
theorem vO.evR {c s:aF} {N:Nat} (h:vO c s) (hc:SG c N) (hN:400<N):SG s N:=by
 rcases h with rfl |h
 ·exact hc
 ·exact(mV h).evC hN
theorem arO {N:Nat} {c:aF} {l:List QL} {kf:aF→Option aa} (hc:SG c N) (hN:400<N) (hl:l.length≤1048576) (hlN:l.length<N):S63 N c l kf=kf (runM c l):=by
 have hx:=au
 unfold S63 runM
 rw[qE hc.ok,adF (by omega) hlN]
 exact sM (l:=l) (g:=fun s e=>(gV s e).1) (Inv:=fun _ s=>vO c s) (fun i s next h hs=>⟨by rw[arM (hs.evR hc hN)],hs.GY _⟩) l 0 c rfl (.inl rfl)
theorem arP {N:Nat} {c:aF} {l:List QL} {kf:aF→Option aa} (hc:SG c N) (hN:400<N) (hl:l.length≤1048576) (hlN:l.length<N):I43 N c l kf=kf (runM c l):=by
 have hx:=au
 unfold I43 runM
 rw[mQ hc.ok,ady (by omega) hlN]
 exact sM (l:=l) (g:=fun s e=>(gV s e).1) (Inv:=fun _ s=>vO c s) (fun i s next h hs=>⟨by rw[arN (hs.evR hc hN)],hs.GY _⟩) l 0 c rfl (.inl rfl)
end Go.Pv.R
namespace Go.Pv.R
set_option linter.unusedVariables false
set_option linter.unusedSimpArgs false
end Go.Pv.R
namespace Go.Pv.R
set_option linter.unusedVariables false
set_option linter.unusedSimpArgs false
end Go.Pv.R
namespace Go.Pv.R
set_option linter.unusedVariables false
set_option linter.unusedSimpArgs false
end Go.Pv.R
namespace Go.Pv.R
set_option linter.unusedVariables false
set_option linter.unusedSimpArgs false
end Go.Pv.R
namespace Go.Pv.R
set_option linter.unusedVariables false
set_option linter.unusedSimpArgs false
end Go.Pv.R
namespace Go.Pv.R
set_option linter.unusedVariables false
set_option linter.unusedSimpArgs false
end Go.Pv.R
namespace Go.Pv.R
set_option linter.unusedVariables false
set_option linter.unusedSimpArgs false
end Go.Pv.R
namespace Go.Pv.R
set_option linter.unusedVariables false
set_option linter.unusedSimpArgs false
def lX {α:Type} (g:α→Int):List α→Int
 |[]=>0
 |x::r=>g x+lX g r
theorem o6 {α:Type} (g:α→Int):∀ (a b:List α),lX g (a++b)=lX g a+lX g b
 |[],b=>by simp[lX]
 |x::a,b=>by simp only[List.cons_append,lX,o6 g a b];omega
theorem FV {α:Type} (g:α→Int) (y z:α):∀ (l:List α) (i:Nat),i<l.length→lX g (l.set i y)=lX g l - g (l.getD i z)+g y
 |[],i,h=>by simp at h
 |x::r,0,h=>by simp only[List.set_cons_zero,lX,List.getD_cons_zero];omega
 |x::r,i+1,h=>by
  simp only[List.set_cons_succ,lX,List.getD_cons_succ]
  rw[FV g y z r i (by simpa using h)]
  omega
def Z1 (x:ar):Int:=(x.met.length:Int)
structure Fair (t:List ar):Prop where
 nd:∀ x:ar,x∈t→x.met.Nodup
 df:∀ x y:ar,x∈t→y∈t→y.1∈x.met→x.2.1≠y.2.1
 w:2*lX (fun x:ar=>x.2.2.1) t=lX Z1 t
 f:2*lX (fun x:ar=>x.2.2.2.2.1) t=lX Z1 t
structure arQ (t:List ar) (x:ar):Prop where
 w:0≤x.2.2.1∧x.2.2.1≤x.met.length
 f:0≤x.2.2.2.2.1∧x.2.2.2.2.1≤x.met.length
 p:0≤x.2.2.2.1∧x.2.2.2.1≤100000
 m:x.met.length≤20
 s:∀ id,id∈x.met→id≠x.1∧∃ y:ar,y∈t∧y.1=id∧x.1∈y.met
theorem DA {t:List ar} (h:ay t=true) {x:ar} (hx:x∈t):arQ t x:=by
 have hm:=au
 unfold ay at h
 simp only[Bool.and_eq_true,decide_eq_true_eq] at h
 obtain⟨_,h1,h2⟩:=h
 rw[dN] at h1 h2
 have m20:∀ y:ar,y∈t→y.met.length≤20:=fun y hy=>by
  obtain⟨i,hi,rfl⟩:=List.mem_iff_getElem.1 hy
  have:=h1 i hi
  unfold iU at this
  simp only[Bool.and_eq_true,decide_eq_true_eq] at this
  exact this.2.2.2.2.2.1
 obtain⟨i,hi,rfl⟩:=List.mem_iff_getElem.1 hx
 have a:=h1 i hi
 have b:=h2 i hi
 unfold iU at a
 simp only[Bool.and_eq_true,decide_eq_true_eq,tJ] at a
 rw[List.all_eq_true] at b
 refine⟨a.2.2.1,a.2.2.2.1,a.2.2.2.2.1,a.2.2.2.2.2.1,fun id hid=>?_⟩
 have c:=b id hid
 unfold Hf at c
 simp only[Bool.and_eq_true,Bool.not_eq_true',decide_eq_false_iff_not,beq_eq_false_iff_ne,beq_iff_eq] at c
 obtain⟨c1,c2,c3⟩:=c
 refine⟨c2,?_⟩
 obtain⟨k,hk,e,h3,_⟩:=bB (p:=fun x:ar=>x.1==id) (l:=t) (by unfold aw at c1;omega)
 have e:aw t id=(k:Int):=e
 rw[e,Int.toNat_natCast,ah _ _ hk] at c3
 rw[AG (by have:=m20 _ hx;omega),AG (by have:=m20 _ (List.getElem_mem hk);omega)] at c3
 refine⟨t[k],List.getElem_mem hk,by simpa using h3,?_⟩
 have:0<List.count id (t[i].met):=List.count_pos_iff.2 hid
 exact List.count_pos_iff.1 (by omega)
theorem o7 {t:List ar} (h:ay t=true) {x y:ar} (hx:x∈t) (hy:y∈t) (e:x.1=y.1):x=y:=by
 have hn:=iW h
 obtain⟨i,hi,rfl⟩:=List.mem_iff_getElem.1 hx
 obtain⟨j,hj,rfl⟩:=List.mem_iff_getElem.1 hy
 have:=(List.nodup_iff_pairwise_ne.1 hn)
 by_cases ru:i=j
 ·subst ru;rfl
 ·exfalso
  have hp:=List.pairwise_iff_getElem.1 hn
  unfold br at hp
  rcases Nat.lt_or_gt_of_ne ru with cf |cf
  ·exact hp i j (by simpa using hi) (by simpa using hj) cf (by simpa using e)
  ·exact hp j i (by simpa using hj) (by simpa using hi) cf (by simpa using e.symm)
def Clean (t:List ar) (a b:Int):Prop:=a≠b∧∀ x y:ar,x∈t→y∈t→x.1=a→y.1=b→b∉x.met∧a∉y.met∧x.2.1≠y.2.1
theorem V' {t:List ar} {a b d p q:Int} (h:ay t=true) (ha:aw t a≥0) (hb:aw t b≥0) (uc:a≠b):∃ (i j:Nat) (hi:i<t.length) (hj:j<t.length),i≠j∧t[i].1=a∧t[j].1=b∧qI t a b d p q=(t.set i (qH t i b d p)).set j (jO t j a d q):=by
 obtain⟨i,hi,e1,h1,_⟩:=bB (p:=fun x:ar=>x.1==a) (l:=t) (by unfold aw at ha;omega)
 obtain⟨j,hj,e2,h2,_⟩:=bB (p:=fun x:ar=>x.1==b) (l:=t) (by unfold aw at hb;omega)
 have e1:aw t a=(i:Int):=e1
 have e2:aw t b=(j:Int):=e2
 refine⟨i,j,hi,hj,fun e=>?_,by simpa using h1,by simpa using h2,?_⟩
 ·subst e
  have h1:t[i].1=a:=by simpa using h1
  have h2:t[i].1=b:=by simpa using h2
  exact uc (h1.symm.trans h2)
 ·unfold qI two
  rw[e1,e2,Int.toNat_natCast,Int.toNat_natCast]
theorem o8 {t:List ar} {a b d p q:Int} (h:ay t=true) (ha:aw t a≥0) (hb:aw t b≥0) (uc:a≠b) {x:ar} (hx:x∈qI t a b d p q):
  ∃ y:ar,y∈t∧x.1=y.1∧x.2.1=y.2.1∧((x.met=y.met∧x.1≠a∧x.1≠b)∨(y.1=a∧x.met=y.met++[b])∨(y.1=b∧x.met=y.met++[a])):=by
 obtain⟨i,j,hi,hj,ru,hia,hjb,e⟩:=V' (d:=d) (p:=p) (q:=q) h ha hb uc
 rw[e] at hx
 obtain⟨k,hk,rfl⟩:=List.mem_iff_getElem.1 hx
 have fo:k<t.length:=by simpa using hk
 rw[List.getElem_set]
 by_cases I1:j=k
 ·subst I1
  rw[if_pos rfl]
  refine⟨t[j],List.getElem_mem hj,?_,?_,.inr (.inr ⟨hjb,?_⟩)⟩<;>unfold jO<;>rw[ah _ _ hj]
 ·rw[if_neg I1,List.getElem_set]
  by_cases hik:i=k
  ·subst hik
   rw[if_pos rfl]
   refine⟨t[i],List.getElem_mem hi,?_,?_,.inr (.inl ⟨hia,?_⟩)⟩<;>unfold qH<;>rw[ah _ _ hi]
  ·rw[if_neg hik]
   refine⟨t[k],List.getElem_mem fo,rfl,rfl,.inl ⟨rfl,fun e=>?_,fun e=>?_⟩⟩
   ·have:=o7 h (List.getElem_mem fo) (List.getElem_mem hi) (e.trans hia.symm)
    have hp:=List.pairwise_iff_getElem.1 (iW h)
    unfold br at hp
    rcases Nat.lt_or_gt_of_ne hik with cf |cf
    ·exact hp i k (by simpa using hi) (by simpa using fo) cf (by simp[this])
    ·exact hp k i (by simpa using fo) (by simpa using hi) cf (by simp[this])
   ·have:=o7 h (List.getElem_mem fo) (List.getElem_mem hj) (e.trans hjb.symm)
    have hp:=List.pairwise_iff_getElem.1 (iW h)
    unfold br at hp
    rcases Nat.lt_or_gt_of_ne I1 with cf |cf
    ·exact hp j k (by simpa using hj) (by simpa using fo) cf (by simp[this])
    ·exact hp k j (by simpa using fo) (by simpa using hj) cf (by simp[this])
theorem FW {t:List ar} {a b d p q:Int} {g:ar→Int} {n:Int} (h:ay t=true) (ha:aw t a≥0) (hb:aw t b≥0) (uc:a≠b) (hg:∀ (i j:Nat),i<t.length→j<t.length→g (qH t i b d p)+g (jO t j a d q)=g (t.getD i aj)+g (t.getD j aj)+n):lX g (qI t a b d p q)=lX g t+n:=by
 obtain⟨i,j,hi,hj,ru,hia,hjb,e⟩:=V' (d:=d) (p:=p) (q:=q) h ha hb uc
 have:=hg i j hi hj
 rw[e,FV g _ aj _ _ (by simpa using hj),FV g _ aj _ _ hi,FT ru]
 omega
theorem Z2 {t:List ar} {a b d p q:Int} (h:ay t=true) (ha:aw t a≥0) (hb:aw t b≥0) (hd:d=1∨d=2) (hc:Clean t a b) (hF:Fair t):Fair (qI t a b d p q):=by
 obtain⟨uc,hc⟩:=hc
 have ad8:∀ i,i<t.length→((t.getD i aj).met.length≤20)∧(0≤(t.getD i aj).2.2.1∧(t.getD i aj).2.2.1≤20)∧(0≤(t.getD i aj).2.2.2.2.1∧(t.getD i aj).2.2.2.2.1≤20):=fun i hi=>by
  have:=DA h (x:=t.getD i aj) (by rw[ah _ _ hi];exact List.getElem_mem hi)
  have h1:=this.w;have h2:=this.f;have h3:=this.m
  omega
 refine⟨fun x hx=>?_,fun x y hx hy zL=>?_,?_,?_⟩
 ·obtain⟨u,hu,e1,e2,e3⟩:=o8 h ha hb uc hx
  obtain⟨z1,IW,f1⟩:∃ z∈t,z.1=a:=⟨_,(cY ha).1,(cY ha).2⟩
  obtain⟨z2,hz2,f2⟩:∃ z∈t,z.1=b:=⟨_,(cY hb).1,(cY hb).2⟩
  have hn:=hF.nd u hu
  rcases e3 with⟨e3,_⟩ |⟨e3,e4⟩ |⟨e3,e4⟩
  ·rw[e3];exact hn
  ·rw[e4]
   have:=(hc u z2 hu hz2 e3 f2).1
   exact List.nodup_append.2 ⟨hn,by simp,fun c Yd d hd e=>by simp at hd;subst hd;subst e;exact this Yd⟩
  ·rw[e4]
   have:=(hc z1 u IW hu f1 e3).2.1
   exact List.nodup_append.2 ⟨hn,by simp,fun c Yd d hd e=>by simp at hd;subst hd;subst e;exact this Yd⟩
 ·obtain⟨u,hu,e1,e2,e3⟩:=o8 h ha hb uc hx
  obtain⟨v,hv,f1,f2,_⟩:=o8 h ha hb uc hy
  rw[e2,f2]
  rw[f1] at zL
  rcases e3 with⟨e3,_⟩ |⟨e3,e4⟩ |⟨e3,e4⟩
  ·exact hF.df u v hu hv (by rw[←e3];exact zL)
  ·rw[e4,List.mem_append,List.mem_singleton] at zL
   rcases zL with zL |zL
   ·exact hF.df u v hu hv zL
   ·exact(hc u v hu hv e3 zL).2.2
  ·rw[e4,List.mem_append,List.mem_singleton] at zL
   rcases zL with zL |zL
   ·exact hF.df u v hu hv zL
   ·exact fun e=>(hc v u hv hu zL e3).2.2 e.symm
 all_goals
  have hm:lX Z1 (qI t a b d p q)=lX Z1 t+2:=FW h ha hb uc fun i j hi hj=>by
   show(((t.getD i aj).2.2.2.2.2++[b]).length:Int)+(((t.getD j aj).2.2.2.2.2++[a]).length:Int)=((t.getD i aj).2.2.2.2.2.length:Int)+((t.getD j aj).2.2.2.2.2.length:Int)+2
   simp only[List.length_append,List.length_cons,List.length_nil]
   omega
  rw[hm]
 ·rw[FW (g:=fun x:ar=>x.2.2.1) (n:=1) h ha hb uc fun i j hi hj=>by
   have h1:=ad8 i hi
   have h2:=ad8 j hj
   show(bif d==1 then IntKind.wrap .i64 ((t.getD i aj).2.2.1+1) else(t.getD i aj).2.2.1)+(bif d==1 then(t.getD j aj).2.2.1 else IntKind.wrap .i64 ((t.getD j aj).2.2.1+1))=(t.getD i aj).2.2.1+(t.getD j aj).2.2.1+1
   rw[wrap64 (by omega) (by omega),wrap64 (by omega) (by omega)]
   cases d==1<;>simp<;>omega]
  have:=hF.w
  omega
 ·rw[FW (g:=fun x:ar=>x.2.2.2.2.1) (n:=1) h ha hb uc fun i j hi hj=>by
   have h1:=ad8 i hi
   show IntKind.wrap .i64 ((t.getD i aj).2.2.2.2.1+1)+(t.getD j aj).2.2.2.2.1=(t.getD i aj).2.2.2.2.1+(t.getD j aj).2.2.2.2.1+1
   rw[wrap64 (by omega) (by omega)]
   omega]
  have:=hF.f
  omega
theorem SH {t:List ar} {a b d p q a' b':Int} (h:ay t=true) (ha:aw t a≥0) (hb:aw t b≥0) (uc:a≠b) (h1:a'≠a∧a'≠b) (h2:b'≠a∧b'≠b) (hc:Clean t a' b'):Clean (qI t a b d p q) a' b':=by
 refine⟨hc.1,fun x y hx hy ex ey=>?_⟩
 obtain⟨u,hu,e1,e2,e3⟩:=o8 h ha hb uc hx
 obtain⟨v,hv,f1,f2,f3⟩:=o8 h ha hb uc hy
 have:=hc.2 u v hu hv (e1.symm.trans ex) (f1.symm.trans ey)
 have e4:x.met=u.met:=by
  rcases e3 with e3 |e3 |e3
  ·exact e3.1
  ·exact absurd (ex.symm.trans (e1.trans e3.1)) h1.1
  ·exact absurd (ex.symm.trans (e1.trans e3.1)) h1.2
 have f4:y.met=v.met:=by
  rcases f3 with f3 |f3 |f3
  ·exact f3.1
  ·exact absurd (ey.symm.trans (f1.trans f3.1)) h2.1
  ·exact absurd (ey.symm.trans (f1.trans f3.1)) h2.2
 rw[e4,f4,e2,f2]
 exact this
theorem Hk {t:List ar} {a b:Int} (h:b9 t a b=true):Clean t a b:=by
 obtain⟨hT,_,_,uc⟩:=iV h
 unfold b9 at h
 simp only[Bool.and_eq_true,decide_eq_true_eq,Bool.not_eq_true',bne_iff_ne,ne_eq] at h
 obtain⟨_,ha,hb,_,iY,hm⟩:=h
 refine⟨uc,fun x y hx hy ex ey=>?_⟩
 have fx:(t.getD (aw t a).toNat aj)=x:=o7 hT (cY ha).1 hx ((cY ha).2.trans ex.symm)
 have fy:(t.getD (aw t b).toNat aj)=y:=o7 hT (cY hb).1 hy ((cY hb).2.trans ey.symm)
 unfold oN awc at hm
 unfold Cq at iY
 rw[fx,fy] at iY
 rw[fx,decide_eq_true ha,Bool.true_and] at hm
 have h1:b∉x.met:=fun hc=>by
  have:=la.2 hc
  rw[hm] at this
  cases this
 refine⟨h1,fun hc=>?_,iY⟩
 obtain⟨_,z,hz,ez,hz2⟩:=(DA hT hy).s a hc
 have:z=x:=o7 hT hz hx (ez.trans ex.symm)
 subst this
 rw[ey] at hz2
 exact h1 hz2
theorem Z3 {t:List ar} {r:List bY} (h:fe t r=true):(cR r).Nodup:=by
 unfold fe at h
 rw[Bool.and_eq_true,List.all_eq_true,List.all_eq_true] at h
 cases r with
 |nil=>simp[cR]
 |cons p r=>
  have hT:=(iV (h.1 p (by simp))).1
  refine((NW (iW hT) fun x hx=>?_).1 fun x hx=>?_).1
  ·unfold cR at hx
   obtain⟨q,hq,hx⟩:=List.mem_flatMap.1 hx
   obtain⟨_,h1,h2,_⟩:=iV (h.1 q hq)
   simp at hx
   rcases hx with rfl |rfl
   ·exact h1
   ·exact h2
  ·obtain⟨y,hy,rfl⟩:=List.mem_map.1 hx
   have:=h.2 y hy
   simpa using this
theorem Cw {c:aF}:∀ (r:List bY) (i:Nat) (s:aF) (ok:Bool),Fair s.1→(∀ p∈r,Clean s.1 p.1 p.2)→(cR r).Nodup→(bU c r i s ok).2=true→Fair (bU c r i s ok).1.1
 |[],i,s,ok,hF,_,_,_=>hF
 |x::r,i,s,ok,hF,hC,hN,ho=>by
  unfold bU at ho ⊢
  cases hb:uI c i x s with
  |false=>rw[hb,Bool.and_false,qL] at ho;cases ho
  |true=>
   rw[hb] at ho
   have hb2:=hb
   unfold uI at hb2
   have hf:=qJ hb2
   have hT:ay s.1=true:=by
    have:=hb2
    unfold rh FU at this
    simp only[Bool.and_eq_true] at this
    exact this.1.1
   have hx:=hC x (by simp)
   have e:(sU c i x s).1=qI s.1 x.1 x.2 (ofM (oY c i)) (oY c i).2.1 (oY c i).2.2:=by
    show AN _ _ _ _ _ _=_
    unfold AN
    rw[hb2]
    rfl
   have hN':x.1∉cR r∧x.2∉cR r∧(cR r).Nodup:=by
    have:cR (x::r)=[x.1,x.2]++cR r:=rfl
    rw[this] at hN
    have:=List.nodup_append.1 hN
    exact⟨fun h=>this.2.2 x.1 (by simp) x.1 h rfl,fun h=>this.2.2 x.2 (by simp) x.2 h rfl,this.2.1⟩
   refine Cw r (i+1) _ _ ?_ (fun p hp=>?_) hN'.2.2 ho
   ·rw[e]
    exact Z2 hT hf.1 hf.2 (AM _) hx hF
   ·rw[e]
    have h1:p.1∈cR r:=List.mem_flatMap.2 ⟨p,hp,by simp⟩
    have h2:p.2∈cR r:=List.mem_flatMap.2 ⟨p,hp,by simp⟩
    exact SH hT hf.1 hf.2 hx.1 ⟨fun e=>hN'.1 (e▸h1),fun e=>hN'.2.1 (e▸h1)⟩ ⟨fun e=>hN'.1 (e▸h2),fun e=>hN'.2.1 (e▸h2)⟩ (hC p (by simp[hp]))
structure Good (c:aF):Prop where
 cl:bG c=true
 fa:Fair c.1
 mi:(NY c.2.2.2.2.2.1:Int)=c.2.2.2.2.2.2+c.2.2.2.2.1.length - (aX c).length
structure arR (c:aF):Prop where
 t:ay c.1=true
 j:bw c.2.1=true
 m:bW c.2.2.2.2.2.1=true
 sl:c.2.2.2.1.length=c.2.2.1.length
 bl:c.2.2.2.2.1.length=c.2.2.1.length
 ro:c.2.2.1.length=0∨(fe c.1 c.2.2.1=true∧c9 c.1 c.2.1 c.2.2.1 c.2.2.2.1=true)
 ba:allI (jH c) c.2.2.2.2.1 0=true
 pl:0≤c.2.2.2.2.2.2∧c.2.2.2.2.2.2≤1000
 tw:mP c.1=c.2.2.2.2.2.2
theorem qM {c:aF} (h:bG c=true):arR c:=by
 unfold bG at h
 simp only[Bool.and_eq_true,Bool.or_eq_true,decide_eq_true_eq,tJ,beq_iff_eq] at h
 exact⟨h.1,h.2.1,h.2.2.1,h.2.2.2.1,h.2.2.2.2.1,h.2.2.2.2.2.1,h.2.2.2.2.2.2.1,h.2.2.2.2.2.2.2.1,h.2.2.2.2.2.2.2.2⟩
theorem Z4 (l:List fG) (aZ dC:Int):NY (l++[lD l aZ dC])=NY l+(bif aZ==4 then 1 else 0):=by
 unfold NY
 rw[List.filter_append,List.length_append]
 congr 1
 show(List.filter _ [((l.length:Int)+1,(aZ,(dC,_)))]).length=_
 simp only[List.filter_cons,List.filter_nil]
 cases aZ==4<;>rfl
theorem kx {c out:aF} {aZ dC:Int} (h:Good c) (ho:bG (lT out (c.2.2.2.2.2.1++[lD c.2.2.2.2.2.1 aZ dC]))=true→Fair out.1∧c.2.2.2.2.2.2+c.2.2.2.2.1.length - (aX c).length+(bif aZ==4 then 1 else 0)=out.2.2.2.2.2.2+out.2.2.2.2.1.length - (aX out).length):Good (ff c out aZ dC):=by
 unfold ff
 cases hd:dW c out aZ dC with
 |false=>exact h
 |true=>
  rw[cond_true]
  unfold dW at hd
  simp only[Bool.and_eq_true] at hd
  obtain⟨h1,_,h2⟩:=hd
  unfold fH at*
  rw[h1,cond_true] at*
  obtain⟨h3,h4⟩:=ho h2
  refine⟨h2,h3,?_⟩
  show(NY (c.2.2.2.2.2.1++[lD c.2.2.2.2.2.1 aZ dC]):Int)=out.2.2.2.2.2.2+out.2.2.2.2.1.length - (aX out).length
  rw[Z4,←h4,←h.mi]
  cases aZ==4<;>simp
theorem Z5 {c:aF} {id cc:Int} (h:Good c) (ht:ay (jY c id cc).1=true):Fair (jY c id cc).1:=by
 have ud:=N9 ht
 have hf:=h.fa
 have e:(jY c id cc).1=c.1.take (lV c.1 id)++[Sy id cc]++c.1.drop (lV c.1 id):=rfl
 have hs:∀ g:ar→Int,g (Sy id cc)=0→lX g (jY c id cc).1=lX g c.1:=fun g hg=>by
  have h1:=o6 g (c.1.take (lV c.1 id)) (c.1.drop (lV c.1 id))
  rw[List.take_append_drop] at h1
  rw[e,o6,o6,h1]
  simp only[lX,hg]
  omega
 have old:∀ x:ar,x∈c.1→id∉x.met:=fun x hx hc=>by
  obtain⟨_,y,hy,ey,_⟩:=(DA (qM h.cl).t hx).s id hc
  obtain⟨i,hi,rfl⟩:=List.mem_iff_getElem.1 hy
  have:=(tI (p:=fun x:ar=>x.1==id) ud).2 i hi
  simp[ey] at this
 refine⟨fun x hx=>?_,fun x y hx hy zL=>?_,?_,?_⟩
 ·rw[e] at hx
  rcases FF hx with hx |rfl
  ·exact hf.nd x hx
  ·exact List.nodup_nil
 ·rw[e] at hx hy
  rcases FF hx with hx |rfl
  ·rcases FF hy with hy |rfl
   ·exact hf.df x y hx hy zL
   ·exact absurd zL (old x hx)
  ·cases zL
 ·rw[hs _ rfl,hs _ rfl];exact hf.w
 ·rw[hs _ rfl,hs _ rfl];exact hf.f
theorem SI {c:aF} {id:Int} (h:Good c) (hm:jL c id=true):Fair (iO c id).1:=by
 have hf:=h.fa
 unfold jL at hm
 simp only[Bool.and_eq_true,decide_eq_true_eq] at hm
 obtain⟨h1,_,h3⟩:=hm
 have hk:=(de (l:=c.1) (id:=id) h1).2
 have e:(iO c id).1=c.1.take (aw c.1 id).toNat++c.1.drop ((aw c.1 id).toNat+1):=rfl
 have lu:∀ x:ar,x∈(iO c id).1→x∈c.1:=fun x hx=>by
  rw[e,List.mem_append] at hx
  rcases hx with hx |hx
  ·exact List.mem_of_mem_take hx
  ·exact List.mem_of_mem_drop hx
 have ht:=DA (qM h.cl).t (x:=c.1.getD (aw c.1 id).toNat aj) (by rw[ah _ _ hk];exact List.getElem_mem hk)
 have h3':(ar.met (c.1.getD (aw c.1 id).toNat aj)).length=0:=h3
 have hs:∀ g:ar→Int,g (c.1.getD (aw c.1 id).toNat aj)=0→lX g (iO c id).1=lX g c.1:=fun g hg=>by
  have h1:=o6 g (c.1.take (aw c.1 id).toNat) (c.1.drop (aw c.1 id).toNat)
  rw[List.take_append_drop,List.drop_eq_getElem_cons hk] at h1
  rw[ah _ _ hk] at hg
  rw[e,o6,h1]
  simp only[lX,hg]
  omega
 have e1:Z1 (c.1.getD (aw c.1 id).toNat aj)=0:=by unfold Z1;omega
 have w1:=ht.w
 have f1:=ht.f
 refine⟨fun x hx=>hf.nd x (lu x hx),fun x y hx hy=>hf.df x y (lu x hx) (lu y hy),?_,?_⟩
 ·rw[hs _ e1,hs _ (by omega)];exact hf.w
 ·rw[hs _ e1,hs _ (by omega)];exact hf.f
theorem uJ {α β:Type} {c:Nat→α→Bool} {f:Nat→α→β} {p:α→Bool} (hc:∀ i x,c i x=p x):∀ (l:List α) (i:Nat),(gh c f l i).length=(l.filter p).length
 |[],_=>rfl
 |x::r,i=>by
  simp only[gh,hc,List.filter_cons]
  cases p x<;>simp[uJ hc r]
theorem sW (c:aF):(aX c).length=(c.2.2.2.2.1.filter gC).length:=uJ (p:=gC) (fun _ _=>rfl) _ _
theorem FX {α:Type} {p:α→Bool} {y z:α}:∀ (l:List α) (i:Nat),i<l.length→p (l.getD i z)=true→p y=false→((l.set i y).filter p).length+1=(l.filter p).length
 |[],i,h,_,_=>by simp at h
 |x::r,0,h,h1,h2=>by
  simp only[List.getD_cons_zero] at h1
  simp only[List.set_cons_zero,List.filter_cons,h1,h2]
  simp
 |x::r,i+1,h,h1,h2=>by
  simp only[List.getD_cons_succ] at h1
  have:=FX (y:=y) r i (by simpa using h) h1 h2
  simp only[List.set_cons_succ,List.filter_cons]
  cases p x<;>simp<;>omega
theorem Ot {b:eQ} (h:bM b=true):gC b=false:=by
 unfold bM at h
 simp only[Bool.and_eq_true,tJ] at h
 unfold gC
 rw[decide_eq_false (show ¬(b.1:Int)=0 by omega)]
 rfl
theorem SJ {c:aF} (h:Good c) (hm:jP c=true) (hk:(bU c c.2.2.1 0 c true).2=true):Fair (bU c c.2.2.1 0 c true).1.1:=by
 unfold jP at hm
 simp only[Bool.and_eq_true,decide_eq_true_eq] at hm
 obtain⟨hc,hr,_⟩:=hm
 have hR:=((qM hc).ro.resolve_left hr).1
 have fI:=hR
 unfold fe at fI
 rw[Bool.and_eq_true,List.all_eq_true] at fI
 exact Cw c.2.2.1 0 c true h.fa (fun p hp=>Hk (fI.1 p hp)) (Z3 hR) hk
theorem FY {b:Bool} {c:aF} {r:aF×Bool} (h:Good c) (hr:b=true→Good r.1):Good (Z0 b c r).1:=by
 unfold Z0
 cases b with
 |false=>exact h
 |true=>exact hr rfl
theorem Cx {c:aF} (h:Good c) (e:QL):Good (gV c e).1:=by
 have hI:=qM h.cl
 unfold gV
 cases e.1==1
 rotate_left
 ·exact FY h fun _=>kx h fun ho=>⟨Z5 h (qM ho).t,by show _+_ - _+0=c.2.2.2.2.2.2+c.2.2.2.2.1.length - (aX c).length;omega⟩
 cases e.1==2
 rotate_left
 ·exact kx h fun ho=>⟨h.fa,by show _+_ - _+0=c.2.2.2.2.2.2+c.2.2.2.2.1.length - (aX c).length;omega⟩
 cases e.1==3
 rotate_left
 ·show Good (cp c).1
  unfold cp
  cases jM c.1 with
  |none=>exact h
  |some ps=>
   simp only[]
   cases gU c.1 c.2.1 ps with
   |none=>exact h
   |some ss=>
    cases hp:iC c with
    |false=>exact h
    |true=>
     refine kx h fun ho=>⟨h.fa,?_⟩
     unfold iC at hp
     simp only[Bool.and_eq_true,decide_eq_true_eq] at hp
     have hb:=hI.bl
     have hw:=ZP c
     have rH:(aX (Cv c ps ss)).length=ps.length:=by
      rw[sW]
      show((List.replicate ps.length ((0:Int),((0:Int),(0:Int)))).filter gC).length=_
      rw[List.filter_eq_self.2 (fun x hx=>by rw[List.eq_of_mem_replicate hx];rfl),List.length_replicate]
     have hl:(Cv c ps ss).2.2.2.2.1.length=ps.length:=List.length_replicate
     have U9:(Cv c ps ss).2.2.2.2.2.2=c.2.2.2.2.2.2:=rfl
     rw[rH,hl,U9]
     show _+_ - _+0=_
     omega
 cases e.1==4
 rotate_left
 ·refine FY h fun hm=>kx h fun ho=>⟨h.fa,?_⟩
  unfold nH at hm
  simp only[Bool.and_eq_true,decide_eq_true_eq] at hm
  obtain⟨_,⟨m1,m2⟩,m3,m4⟩:=hm
  have hb:=hI.bl
  have hf:=FX (p:=gC) (y:=ra c e.2.2.2 e.2.1 e.2.2.1) (z:=gQ) c.2.2.2.2.1 e.2.2.2.toNat (by omega) m3 (Ot m4)
  have hw:(aX (oP c e.2.2.2 e.2.1 e.2.2.1)).length+1=(aX c).length:=by rw[sW,sW];exact hf
  have hl:(oP c e.2.2.2 e.2.1 e.2.2.1).2.2.2.2.1.length=c.2.2.2.2.1.length:=List.length_set
  have U9:(oP c e.2.2.2 e.2.1 e.2.2.1).2.2.2.2.2.2=c.2.2.2.2.2.2:=rfl
  rw[hl,U9]
  show _+_ - _+1=_
  omega
 cases e.1==5
 rotate_left
 ·show Good (dp c).1
  unfold dp
  cases hm:jP c with
  |false=>exact h
  |true=>
   cases hk:(bU c c.2.2.1 0 c true).2 with
   |false=>exact h
   |true=>
    refine kx h fun ho=>⟨SJ h hm hk,?_⟩
    unfold jP at hm
    simp only[Bool.and_eq_true,decide_eq_true_eq] at hm
    obtain⟨_,_,hw⟩:=hm
    have hb:=hI.bl
    have hp:=hI.pl
    have hN:=h.mi
    have ZZ:=(mV h.cl).ZZ
    have h1:(Hj c (bU c c.2.2.1 0 c true).1).2.2.2.2.2.2=c.2.2.2.2.2.2+(List.length c.2.2.1:Int):=by
     show IntKind.wrap .i64 (c.2.2.2.2.2.2+(List.length c.2.2.1:Int))=_
     exact wrap64 (by omega) (by omega)
    have h2:(Hj c (bU c c.2.2.1 0 c true).1).2.2.2.2.1.length=0:=rfl
    have h3:(aX (Hj c (bU c c.2.2.1 0 c true).1)).length=0:=rfl
    rw[h1,h2,h3]
    show _+_ - _+0=_
    omega
 cases e.1==6
 rotate_left
 ·exact FY h fun hm=>kx h fun ho=>⟨SI h hm,by show _+_ - _+0=c.2.2.2.2.2.2+c.2.2.2.2.1.length - (aX c).length;omega⟩
 ·exact h
end Go.Pv.R
namespace Go.Pv.R
set_option linter.unusedVariables false
set_option linter.unusedSimpArgs false
abbrev Io:=dY
def ld (c:Io):Prop:=0≤c.2.1∧c.1.length≤1048576
def FZ {α:Type} (F:Io→(α→Io→Option aa)→Option aa) (P:α→Prop):Prop:=∀ c:Io,ld c→∃ v,∃ c':Io,ld c'∧P v∧∀ kf,F c kf=kf v c'
theorem ad9 (x:BitVec (IntKind.bits .i64)):0≤IntKind.wrap .i64 (BitVec.toNat (x&&&BitVec.ofInt (IntKind.bits .i64) (255:Int)))∧IntKind.wrap .i64 (BitVec.toNat (x&&&BitVec.ofInt (IntKind.bits .i64) (255:Int)))≤255:=by
 have h:BitVec.toNat (x&&&BitVec.ofInt (IntKind.bits .i64) (255:Int))≤255:=by
  rw[BitVec.toNat_and]
  refine Nat.le_trans Nat.and_le_right ?_
  decide
 rw[wrap64 (by omega) (by omega)]
 omega
theorem JR {N:Nat}:FZ (RI N) fun v=>0≤v∧v≤255:=fun c hc=>by
 obtain⟨hc,hl⟩:=hc
 unfold RI share
 rw[decide_eq_true (show(0:Int)≤33 by omega),decide_eq_true (show(0:Int)≤47 by omega)]
 simp only[cond_true]
 by_cases hi:c.2.1<(List.length c.1:Int)
 ·have fh:aQ c.2.1 (List.length c.1)=true:=by
   have:=ak (i:=c.2.1.toNat) (m:=c.1.length) (by omega)
   rwa [Int.toNat_of_nonneg hc] at this
  rw[decide_eq_true hi,fh]
  simp only[cond_true]
  refine⟨_,(c.1,(IntKind.wrap .i64 (c.2.1+1),_)),⟨?_,hl⟩,ad9 _,fun kf=>rfl⟩
  show 0≤IntKind.wrap .i64 (c.2.1+1)
  rw[wrap64 (by omega) (by omega)]
  omega
 ·rw[decide_eq_false hi]
  simp only[cond_false]
  exact⟨_,(c.1,(c.2.1,IntKind.wrap .i64 (IntKind.wrap .i64 (c.2.2*(6364136223846793005:Int))+(1442695040888963407:Int)))),⟨hc,hl⟩,ad9 _,fun kf=>rfl⟩
theorem aj0 {r n:Int} (hr:0≤r) (hn:0<n):0≤Int.tmod r n∧Int.tmod r n<n:=by
 rw[Int.tmod_eq_emod_of_nonneg hr]
 exact⟨Int.emod_nonneg _ (by omega),Int.emod_lt_of_pos _ hn⟩
theorem iq {N:Nat} {n:Int} (h0:0<n) (h1:n≤256):FZ (fun c kf=>mE N c n kf) fun v=>0≤v∧v<n:=fun c hc=>by
 obtain⟨v,c',h2,h3,h4⟩:=JR (N:=N) c hc
 refine⟨Int.tmod v n,c',h2,aj0 h3.1 h0,fun kf=>?_⟩
 show mE N c n kf=_
 unfold mE
 rw[decide_eq_false (by omega),decide_eq_true h1]
 simp only[cond_true,cond_false]
 rw[h4,decide_eq_false (by omega)]
 rfl
theorem xW {N:Nat} {n:Int} (h0:0<n) (h1:n≤256):FZ (fun c kf=>YT N c n kf) fun _=>True:=fun c hc=>by
 obtain⟨v,c',h2,h3,h4⟩:=iq (N:=N) h0 h1 c hc
 exact⟨_,c',h2,trivial,fun kf=>h4 _⟩
theorem Cy {N:Nat} {l:List Int} (h0:0<l.length) (h1:l.length≤256):FZ (fun c kf=>Nv N c l kf) fun v=>v∈l:=fun c hc=>by
 obtain⟨v,c',h2,h3,h4⟩:=iq (N:=N) (n:=(l.length:Int)) (by omega) (by omega) c hc
 have h4:∀ kf,mE N c (l.length:Int) kf=kf v c':=h4
 obtain⟨k,rfl⟩:∃ k:Nat,v=(k:Int):=⟨v.toNat,by omega⟩
 have hk:k<l.length:=by omega
 refine⟨l.getD k 0,c',h2,by rw[ah _ _ hk];exact List.getElem_mem hk,fun kf=>?_⟩
 show Nv N c l kf=_
 unfold Nv
 rw[h4,ak hk,Int.toNat_natCast]
 rfl
theorem Ou {N:Nat} {a:List Int} (ha:a.length≤1048576) (hN:4000<N):∃ c:Io,ld c∧∀ kf,S67 N a kf=kf c:=by
 have key:∀ (d i n:Nat) (h:Int),i+d=min a.length 4000→d<n→∃ h',∀ k:Int→Option aa,Ak a n k h (i:Int)=k h':=by
  intro d
  induction d with
  |zero=>
   intro i n h hi hn
   obtain⟨n,rfl⟩:∃ m,n=m+1:=⟨n - 1,by omega⟩
   refine⟨h,fun k=>?_⟩
   unfold Ak
   by_cases h1:i<a.length
   ·rw[decide_eq_true (show(i:Int)<(List.length a:Int) by omega),decide_eq_false (show ¬(i:Int)<4000 by omega)]
    rfl
   ·rw[decide_eq_false (show ¬(i:Int)<(List.length a:Int) by omega)]
    rfl
  |succ d ih=>
   intro i n h hi hn
   obtain⟨n,rfl⟩:∃ m,n=m+1:=⟨n - 1,by omega⟩
   obtain⟨h',hh⟩:=ih (i+1) n (IntKind.wrap .i64 (BitVec.toNat (BitVec.ofInt (IntKind.bits .i64) (IntKind.wrap .i64 ((IntKind.wrap .i64 ((IntKind.wrap .i64 (h*(137:Int)))+(IntKind.wrap .i64 (List.getD a (Int.toNat (i:Int)) (0:Int)))))+(11:Int)))&&&BitVec.ofInt (IntKind.bits .i64) (1073741823:Int)))) (by omega) (by omega)
   refine⟨h',fun k=>?_⟩
   unfold Ak
   rw[decide_eq_true (show(i:Int)<(List.length a:Int) by omega),decide_eq_true (show(i:Int)<4000 by omega),ak (by omega)]
   simp only[cond_true]
   rw[wrap64 (n:=(i:Int)+1) (by omega) (by omega)]
   exact hh k
 obtain⟨h',hh⟩:=key (min a.length 4000) 0 N (IntKind.wrap .i64 ((193017:Int)+(List.length a:Int))) (by omega) (by omega)
 exact⟨(a,((0:Int),h')),⟨Int.le_refl 0,ha⟩,fun kf=>hh _⟩
theorem JS {N:Nat}:FZ (aiu N) fun _=>True:=fun c hc=>by
 obtain⟨k,c1,h1,_,e1⟩:=Cy (N:=N) (l:=[(1:Int),(2:Int),(3:Int),(3:Int),(4:Int),(4:Int),(4:Int),(5:Int),(5:Int),(6:Int)]) (by simp) (by simp) c hc
 have e1:∀ kf,Nv N c [(1:Int),(2:Int),(3:Int),(3:Int),(4:Int),(4:Int),(4:Int),(5:Int),(5:Int),(6:Int)] kf=kf k c1:=e1
 unfold aiu
 simp only[e1]
 have B:∀ (n:Int) (c:Io),0<n→n≤256→ld c→∃ v,∃ c':Io,ld c'∧∀ kf,mE N c n kf=kf v c':=fun n c h0 h1 hc=>by
  obtain⟨v,c',a,_,b⟩:=iq (N:=N) h0 h1 c hc
  exact⟨v,c',a,b⟩
 cases k==1
 rotate_left
 ·obtain⟨v2,c2,h2,e2⟩:=B 9 c1 (by omega) (by omega) h1
  obtain⟨v3,c3,h3,e3⟩:=B 3 c2 (by omega) (by omega) h2
  exact⟨_,c3,h3,trivial,fun kf=>by simp only[cond_true,e2,e3];rfl⟩
 cases k==2
 rotate_left
 ·obtain⟨v2,c2,h2,e2⟩:=B 5 c1 (by omega) (by omega) h1
  exact⟨_,c2,h2,trivial,fun kf=>by simp only[cond_true,cond_false,e2];rfl⟩
 cases k==4
 rotate_left
 ·obtain⟨v2,c2,h2,e2⟩:=B 3 c1 (by omega) (by omega) h1
  obtain⟨v3,c3,h3,e3⟩:=B 20 c2 (by omega) (by omega) h2
  obtain⟨v4,c4,h4,e4⟩:=B 20 c3 (by omega) (by omega) h3
  exact⟨_,c4,h4,trivial,fun kf=>by simp only[cond_true,cond_false,e2,e3,e4];rfl⟩
 cases k==6
 rotate_left
 ·obtain⟨v2,c2,h2,e2⟩:=B 9 c1 (by omega) (by omega) h1
  exact⟨_,c2,h2,trivial,fun kf=>by simp only[cond_true,cond_false,e2];rfl⟩
 ·exact⟨_,c1,h1,trivial,fun kf=>by simp only[cond_false];rfl⟩
def xX:List QL:=[((1:Int),((2:Int),((1:Int),(0:Int)))),((1:Int),((4:Int),((2:Int),(0:Int)))),((2:Int),((11:Int),((4:Int),(0:Int)))),((2:Int),((12:Int),((5:Int),(0:Int))))]
theorem uK {N:Nat} {c:Io} (hc:ld c):∀ (k n:Nat) (c:Io) (l:List QL),ld c→k<n→l.length+k≤100→∃ r,∃ c':Io,ld c'∧r.length=k∧∀ kf,Am N n kf c l (k:Int)=kf c' (l++r)
 |0,n,c,l,hc,hn,hl=>by
  obtain⟨n,rfl⟩:∃ m,n=m+1:=⟨n - 1,by omega⟩
  refine⟨[],c,hc,rfl,fun kf=>?_⟩
  unfold Am
  rw[decide_eq_false (by omega),List.append_nil]
  rfl
 |k+1,n,c,l,hc,hn,hl=>by
  obtain⟨n,rfl⟩:∃ m,n=m+1:=⟨n - 1,by omega⟩
  obtain⟨e,c1,h1,_,e1⟩:=JS (N:=N) c hc
  obtain⟨r,c2,h2,hr,e2⟩:=uK (N:=N) hc k n c1 (l++[e]) h1 (by omega) (by simp;omega)
  refine⟨e::r,c2,h2,by simp[hr],fun kf=>?_⟩
  unfold Am
  rw[decide_eq_true (by omega),cond_true,e1,decide_eq_true (by simp;omega),cond_true,wrap64 (by omega) (by omega),show(((k+1:Nat):Int) - 1)=(k:Int) by omega,e2,List.append_assoc]
  rfl
theorem Hl {N:Nat} (hN:100<N):FZ (S69 N) fun l=>l.length≤20∧∃ r,l=xX++r:=fun c hc=>by
 obtain⟨b,c1,h1,_,e1⟩:=xW (N:=N) (n:=2) (by omega) (by omega) c hc
 have e1:∀ kf,YT N c 2 kf=kf b c1:=e1
 have J:∀ y:List QL,y.length≤6→∃ r,∃ c':Io,ld c'∧r.length≤13∧∀ kf,Jb N kf c1 y=kf (y++r) c':=fun y hy=>by
  obtain⟨v,c2,h2,h3,e2⟩:=iq (N:=N) (n:=14) (by omega) (by omega) c1 h1
  have e2:∀ kf,mE N c1 14 kf=kf v c2:=e2
  obtain⟨k,rfl⟩:∃ k:Nat,v=(k:Int):=⟨v.toNat,by omega⟩
  obtain⟨r,c3,h4,hr,e3⟩:=uK (N:=N) hc k N c2 y h2 (by omega) (by omega)
  refine⟨r,c3,h4,by omega,fun kf=>?_⟩
  unfold Jb
  rw[e2,e3]
 cases b with
 |false=>
  obtain⟨r,c2,h2,hr,e2⟩:=J xX (by simp[xX])
  refine⟨xX++r,c2,h2,⟨by simp[xX];omega,r,rfl⟩,fun kf=>?_⟩
  unfold S69
  rw[e1]
  exact e2 kf
 |true=>
  obtain⟨r,c2,h2,hr,e2⟩:=J (xX++[((1:Int),((6:Int),((1:Int),(0:Int)))),((1:Int),((8:Int),((3:Int),(0:Int))))]) (by simp[xX])
  refine⟨_,c2,h2,⟨?_,[((1:Int),((6:Int),((1:Int),(0:Int)))),((1:Int),((8:Int),((3:Int),(0:Int))))]++r,(List.append_assoc _ _ _)⟩,fun kf=>?_⟩
  ·simp[xX];omega
  unfold S69
  rw[e1]
  exact e2 kf
def Ov:aF:=([],([],([],([],([],([],0))))))
theorem F0 {N:Nat} {a:List Int} (ha:a.length≤1048576) (hN:4000<N):∃ l:List QL,l.length≤20∧(∃ r,l=xX++r)∧∀ kf,S12 N a kf=kf Ov l:=by
 obtain⟨c,hc,e⟩:=Ou ha hN
 obtain⟨l,c',_,hl,e2⟩:=Hl (N:=N) (by omega) c hc
 refine⟨l,hl.1,hl.2,fun kf=>?_⟩
 unfold S12
 rw[e]
 exact e2 _
theorem tR:Good Ov:=by
 refine⟨by decide,⟨fun x hx=>(by cases hx),fun x y hx=>(by cases hx),rfl,rfl⟩,rfl⟩
end Go.Pv.R
namespace Go.Pv.R
set_option linter.unusedVariables false
set_option linter.unusedSimpArgs false
end Go.Pv.R
namespace Go.Pv.R
set_option linter.unusedVariables false
set_option linter.unusedSimpArgs false
end Go.Pv.R
namespace Go.Pv.R
set_option linter.unusedVariables false
set_option linter.unusedSimpArgs false
theorem below {N:Nat} {n:Int} {c:Io} (h0:0<n) (h1:n≤256) (hc:ld c):∃ v,∃ c':Io,ld c'∧(0≤v∧v<n)∧∀ kf,mE N c n kf=kf v c':=iq (N:=N) h0 h1 c hc
theorem oneOf {N:Nat} {l:List Int} {c:Io} (h0:0<l.length) (h1:l.length≤256) (hc:ld c):∃ v,∃ c':Io,ld c'∧v∈l∧∀ kf,Nv N c l kf=kf v c':=Cy (N:=N) h0 h1 c hc
theorem once {N:Nat} {n:Int} {c:Io} (h0:0<n) (h1:n≤256) (hc:ld c):∃ v,∃ c':Io,ld c'∧∀ kf,YT N c n kf=kf v c':=by
 obtain⟨v,c',h2,_,h4⟩:=xW (N:=N) h0 h1 c hc
 exact⟨v,c',h2,h4⟩
theorem xY {N:Nat} (hN:200<N):∀ (k n:Nat) (c:Io) (l:List fG),ld c→k<n→l.length+k≤100→∃ r:List fG,∃ c':Io,ld c'∧r.length≤l.length+k∧∀ kf,tG N n kf c l (k:Int)=kf c' r
 |0,n,c,l,hc,hn,hl=>by
  obtain⟨n,rfl⟩:∃ j,n=j+1:=⟨n - 1,by omega⟩
  refine⟨l,c,hc,by omega,fun kf=>?_⟩
  unfold tG
  rw[decide_eq_false (by omega)]
  rfl
 |k+1,n,c,l,hc,hn,hl=>by
  obtain⟨n,rfl⟩:∃ j,n=j+1:=⟨n - 1,by omega⟩
  obtain⟨a,c1,hc1,_,e1⟩:=below (N:=N) (n:=9) (by omega) (by omega) hc
  obtain⟨b,c2,QU,_,e2⟩:=below (N:=N) (n:=5) (by omega) (by omega) hc1
  have hw:∀ a b kf,Y8 N l a b kf=kf (fH l a b) (jI l a b):=fun a b kf=>VP (by omega) (by omega) (by omega)
  have hwl:=Sx l (IntKind.wrap .i64 ((1:Int)+a)) b
  obtain⟨r,c3,hc3,hr,e3⟩:=xY hN k n c2 (fH l (IntKind.wrap .i64 ((1:Int)+a)) b) QU (by omega) (by omega)
  refine⟨r,c3,hc3,by omega,fun kf=>?_⟩
  unfold tG
  rw[decide_eq_true (by omega),cond_true]
  simp only[e1,e2,hw]
  rw[wrap64 (n:=((k+1:Nat):Int) - 1) (by omega) (by omega),show(((k+1:Nat):Int) - 1)=(k:Int) by omega]
  exact e3 kf
theorem JT {N:Nat} (hN:200<N):FZ (ai9 N) fun l=>l.length≤8:=fun c hc=>by
 obtain⟨v,c1,hc1,hv,e1⟩:=below (N:=N) (n:=9) (by omega) (by omega) hc
 obtain⟨k,rfl⟩:∃ k:Nat,v=(k:Int):=⟨v.toNat,by omega⟩
 obtain⟨l,c2,QU,hl,e2⟩:=xY hN k N c1 [] hc1 (by omega) (by simp;omega)
 have hl8:l.length≤8:=by simp at hl;omega
 unfold ai9
 simp only[e1,e2]
 by_cases h0:(List.length l:Int)>0
 rotate_left
 ·exact⟨l,c2,QU,hl8,fun kf=>by rw[decide_eq_false h0];rfl⟩
 rw[decide_eq_true h0]
 simp only[cond_true]
 obtain⟨i,c3,hc3,hi,e3⟩:=below (N:=N) (n:=(l.length:Int)) (by omega) (by omega) QU
 obtain⟨j,rfl⟩:∃ j:Nat,i=(j:Int):=⟨i.toNat,by omega⟩
 have hj:j<l.length:=by omega
 obtain⟨w,c4,hc4,hw,e4⟩:=below (N:=N) (n:=10) (by omega) (by omega) hc3
 have hlen:∀ y:fG,(l.set j y).length≤8:=fun y=>by rw[List.length_set];exact hl8
 simp only[e3,e4,ak hj,Int.toNat_natCast,cond_true]
 cases w==0
 rotate_left
 ·obtain⟨v,c5,hc5,_,e5⟩:=oneOf (N:=N) (l:=[(-1:Int),(99:Int),(100:Int)]) (by simp) (by simp) hc4
  exact⟨_,c5,hc5,hlen _,fun kf=>by simp only[cond_true,e5];rfl⟩
 cases w==1
 rotate_left
 ·exact⟨_,c4,hc4,hlen _,fun kf=>by simp only[cond_true,cond_false];rfl⟩
 cases w==2
 rotate_left
 ·exact⟨_,c4,hc4,hlen _,fun kf=>by simp only[cond_true,cond_false];rfl⟩
 ·exact⟨l,c4,hc4,hl8,fun kf=>by simp only[cond_false]⟩
end Go.Pv.R
namespace Go.Pv.R
set_option linter.unusedVariables false
set_option linter.unusedSimpArgs false
theorem Ow:∀ (l:List QL) {c:aF},Good c→Good (runM c l)
 |[],c,h=>h
 |e::l,c,h=>Ow l (Cx h e)
end Go.Pv.R
namespace Go.Pv.R
set_option linter.unusedVariables false
set_option linter.unusedSimpArgs false
def Ox (s:Bool) (x:fG):Bool:=VI 0 x s
theorem Ip:∀ (l:List fG) (i:Nat) (s:Bool),foldI VI l i s=l.foldl Ox s
 |[],_,_=>rfl
 |x::r,i,s=>by
  simp only[foldI,List.foldl_cons]
  exact Ip r (i+1) _
def cy (l:List aR):List Int:=l.map fun x:aR=>x.1
def vP (a:Int) (l:List fG):Nat:=(l.filter fun x=>x.2.1==a).length
theorem ad' (a:Int) (l:List fG) (aZ dC:Int):vP a (l++[lD l aZ dC])=vP a l+(bif aZ==a then 1 else 0):=by
 unfold vP
 rw[List.filter_append,List.length_append]
 congr 1
 show(List.filter _ [((l.length:Int)+1,(aZ,(dC,_)))]).length=_
 simp only[List.filter_cons,List.filter_nil]
 cases aZ==a<;>rfl
theorem AO (a:Int):∀ (l:List fG) (i s:Nat),s+l.length≤1000000→foldI (Fs a) l i (s:Int)=((s+vP a l:Nat):Int)
 |[],_,_,_=>by simp[foldI,vP]
 |x::r,i,s,h=>by
  simp only[List.length_cons] at h
  simp only[foldI,vP,List.filter_cons]
  cases hx:x.2.1==a with
  |false=>
   have e:Fs a i x (s:Int)=(s:Int):=by unfold Fs;rw[hx];rfl
   rw[e]
   exact AO a r (i+1) s (by omega)
  |true=>
   have e:Fs a i x (s:Int)=((s+1:Nat):Int):=by unfold Fs;rw[hx,cond_true,wrap64 (by omega) (by omega)];omega
   rw[e,AO a r (i+1) (s+1) (by omega)]
   simp only[if_true,List.length_cons]
   unfold vP
   omega
def dD (l:List fG):List Int:=(l.filter fun x=>x.2.1==4).map fun x=>x.2.2.1
theorem xZ (a:Int):∀ (l:List fG) (i s:Nat),s+l.length≤1000000→foldI (JC a) l i (s:Int)=((s+(dD l).count a:Nat):Int)
 |[],_,_,_=>by simp[foldI,dD]
 |x::r,i,s,h=>by
  simp only[List.length_cons] at h
  have e:dD (x::r)=bif x.2.1==4 then x.2.2.1::dD r else dD r:=by
   unfold dD
   rw[List.filter_cons]
   cases x.2.1==4<;>simp
  rw[e]
  simp only[foldI]
  cases h4:x.2.1==4 with
  |false=>
   have e:JC a i x (s:Int)=(s:Int):=by unfold JC;rw[h4];rfl
   rw[e]
   exact xZ a r (i+1) s (by omega)
  |true=>
   rw[cond_true,List.count_cons]
   cases hw:x.2.2.1==a with
   |false=>
    have e:JC a i x (s:Int)=(s:Int):=by unfold JC;rw[h4,hw];rfl
    rw[e,xZ a r (i+1) s (by omega)]
    simp
   |true=>
    have e:JC a i x (s:Int)=((s+1:Nat):Int):=by unfold JC;rw[h4,hw,cond_true,cond_true,wrap64 (by omega) (by omega)];omega
    rw[e,xZ a r (i+1) (s+1) (by omega)]
    simp
    omega
structure JU (c:aF):Prop where
 g:Good c
 j:∀ x,x∈c.2.2.2.2.2.1.foldl gI []↔x∈cy c.2.1
 t:∀ x,x∈c.2.2.2.2.2.1.foldl eE []↔x∈br c.1
 o:c.2.2.2.2.2.1.foldl Ox false=decide (c.2.2.1.length≠0)
 f:∀ x∈dD c.2.2.2.2.2.1,x∈cy c.2.1
 r:(vP 5 c.2.2.2.2.2.1:Int)≤c.2.2.2.2.2.2
theorem Z6:JU Ov:=⟨tR,fun x=>Iff.rfl,fun x=>Iff.rfl,rfl,fun x hx=>(by cases hx),by decide⟩
structure aea (c out:aF) (aZ dC:Int):Prop where
 j:∀ x,x∈cy out.2.1↔x∈cy c.2.1∨(aZ=2∧x=dC)
 t:∀ x,x∈br out.1↔(x∈br c.1∧ ¬(aZ=6∧x=dC))∨(aZ=1∧x=dC)
 o:decide (out.2.2.1.length≠0)=bif aZ==3 then true else bif aZ==5 then false else decide (c.2.2.1.length≠0)
 f:aZ=4→dC∈cy out.2.1
 r:c.2.2.2.2.2.2+(bif aZ==5 then 1 else 0)≤out.2.2.2.2.2.2
theorem ky {c out:aF} {aZ dC:Int} (h:JU c) (hg:Good (ff c out aZ dC)) (ho:bG (lT out (c.2.2.2.2.2.1++[lD c.2.2.2.2.2.1 aZ dC]))=true→aea c out aZ dC):JU (ff c out aZ dC):=by
 unfold ff at hg ⊢
 cases hd:dW c out aZ dC with
 |false=>exact h
 |true=>
  rw[hd,cond_true] at hg
  rw[cond_true]
  unfold dW at hd
  simp only[Bool.and_eq_true] at hd
  obtain⟨h1,_,h2⟩:=hd
  have hwr:fH c.2.2.2.2.2.1 aZ dC=c.2.2.2.2.2.1++[lD c.2.2.2.2.2.1 aZ dC]:=by unfold fH;rw[h1];rfl
  rw[hwr] at h2 hg ⊢
  obtain⟨pj,pt,po,pf,pr⟩:=ho h2
  refine⟨hg,fun x=>?_,fun x=>?_,?_,fun x hx=>?_,?_⟩
  ·show x∈(c.2.2.2.2.2.1++[lD c.2.2.2.2.2.1 aZ dC]).foldl gI []↔x∈cy out.2.1
   rw[List.foldl_append,pj]
   show x∈(bif aZ==2 then jJ (c.2.2.2.2.2.1.foldl gI []) dC else c.2.2.2.2.2.1.foldl gI [])↔_
   by_cases hw:aZ=2
   ·rw[beq_iff_eq.2 hw,cond_true,jK,h.j]
    constructor
    ·rintro(e |e)
     ·exact .inr ⟨hw,e⟩
     ·exact .inl e
    ·rintro(e |⟨_,e⟩)
     ·exact .inr e
     ·exact .inl e
   ·rw[beq_eq_false_iff_ne.2 hw,cond_false,h.j]
    exact⟨.inl,fun e=>e.resolve_right fun e=>hw e.1⟩
  ·show x∈(c.2.2.2.2.2.1++[lD c.2.2.2.2.2.1 aZ dC]).foldl eE []↔x∈br out.1
   rw[List.foldl_append,pt]
   show x∈(bif aZ==1 then jJ (c.2.2.2.2.2.1.foldl eE []) dC else bif aZ==6 then im (c.2.2.2.2.2.1.foldl eE []) dC else c.2.2.2.2.2.1.foldl eE [])↔_
   by_cases hw:aZ=1
   ·rw[beq_iff_eq.2 hw,cond_true,jK,h.t]
    subst hw
    constructor
    ·rintro(e |e)
     ·exact .inr ⟨rfl,e⟩
     ·exact .inl ⟨e,fun e=>absurd e.1 (by decide)⟩
    ·rintro(e |⟨_,e⟩)
     ·exact .inr e.1
     ·exact .inl e
   ·rw[beq_eq_false_iff_ne.2 hw,cond_false]
    by_cases hw6:aZ=6
    ·rw[beq_iff_eq.2 hw6,cond_true,qG,h.t]
     constructor
     ·rintro⟨e1,e2⟩
      exact .inl ⟨e1,fun e=>e2 e.2⟩
     ·rintro(⟨e1,e2⟩ |e)
      ·exact⟨e1,fun e=>e2 ⟨hw6,e⟩⟩
      ·exact absurd e.1 hw
    ·rw[beq_eq_false_iff_ne.2 hw6,cond_false,h.t]
     constructor
     ·intro e
      exact .inl ⟨e,fun e=>hw6 e.1⟩
     ·rintro(e |e)
      ·exact e.1
      ·exact absurd e.1 hw
  ·show(c.2.2.2.2.2.1++[lD c.2.2.2.2.2.1 aZ dC]).foldl Ox false=decide (out.2.2.1.length≠0)
   rw[List.foldl_append,po,←h.o]
   rfl
  ·have e:dD (c.2.2.2.2.2.1++[lD c.2.2.2.2.2.1 aZ dC])=dD c.2.2.2.2.2.1++bif aZ==4 then [dC] else []:=by
    unfold dD
    rw[List.filter_append,List.map_append]
    congr 1
    show List.map (fun x:fG=>x.2.2.1) (List.filter (fun x:fG=>x.2.1==4) [((c.2.2.2.2.2.1.length:Int)+1,(aZ,(dC,xO (FC c.2.2.2.2.2.1) ((c.2.2.2.2.2.1.length:Int)+1,(aZ,(dC,0))))))])=_
    simp only[List.filter_cons,List.filter_nil]
    cases aZ==4<;>rfl
   have hx:x∈dD (c.2.2.2.2.2.1++[lD c.2.2.2.2.2.1 aZ dC]):=hx
   show x∈cy out.2.1
   rw[e,List.mem_append] at hx
   rcases hx with hx |hx
   ·exact(pj x).2 (.inl (h.f x hx))
   ·by_cases hw:aZ=4
    ·rw[beq_iff_eq.2 hw,cond_true,List.mem_singleton] at hx
     rw[hx]
     exact pf hw
    ·rw[beq_eq_false_iff_ne.2 hw] at hx
     cases hx
  ·show(vP 5 (c.2.2.2.2.2.1++[lD c.2.2.2.2.2.1 aZ dC]):Int)≤out.2.2.2.2.2.2
   have:=h.r
   rw[ad']
   revert pr
   cases aZ==5<;>simp<;>omega
theorem Wa {α:Type} {f:α→Int} {xs:List α} {k:Nat} {y:α} {x:Int}:x∈(xs.take k++[y]++xs.drop k).map f↔x∈xs.map f∨x=f y:=by
 have h:xs.map f=(xs.take k).map f++(xs.drop k).map f:=by rw[←List.map_append,List.take_append_drop]
 rw[h]
 simp only[List.map_append,List.mem_append,List.map_cons,List.map_nil,List.mem_singleton]
 constructor
 ·rintro((h |h) |h)
  ·exact .inl (.inl h)
  ·exact .inr h
  ·exact .inl (.inr h)
 ·rintro((h |h) |h)
  ·exact .inl (.inl h)
  ·exact .inr h
  ·exact .inl (.inr h)
theorem aeb {t:List ar} {a b d p q:Int}:br (AN t a b d p q)=br t:=by
 unfold AN
 cases hb:rh t a b d p q with
 |false=>rfl
 |true=>
  obtain⟨ha,hb2⟩:=qJ hb
  have h1:=(de ha).2
  have h2:=(de hb2).2
  rw[cond_true]
  unfold qI two br
  rw[List.map_set,List.map_set]
  apply List.ext_getElem (by simp)
  intro i hi mY
  rw[List.getElem_set]
  split
  ·rename_i e
   subst e
   show(t.getD _ aj).1=_
   rw[ah _ _ h2]
   simp
  ·rw[List.getElem_set]
   split
   ·rename_i e
    subst e
    show(t.getD _ aj).1=_
    rw[ah _ _ h1]
    simp
   ·rfl
theorem F3 {c:aF}:∀ (r:List bY) (i:Nat) (s:aF) (ok:Bool),br (bU c r i s ok).1.1=br s.1
 |[],i,s,ok=>rfl
 |x::r,i,s,ok=>by
  unfold bU
  rw[F3 r (i+1)]
  exact aeb
theorem Oy {c:aF} (h:JU c) (e:QL):JU (gV c e).1:=by
 have hg:=Cx h.g e
 have hI:=qM h.g.cl
 unfold gV at hg ⊢
 cases h1:e.1==1
 rotate_left
 ·rw[h1,cond_true] at hg
  rw[cond_true]
  revert hg
  unfold Z0
  cases decide (c.2.2.1.length=0) with
  |false=>exact fun _=>h
  |true=>
   intro hg
   refine ky h hg fun ho=>⟨fun x=>⟨.inl,fun e=>e.resolve_right fun e=>absurd e.1 (by decide)⟩,fun x=>?_,rfl,fun e=>absurd e (by decide),by show _+0≤_;rw[Int.add_zero];exact Int.le_refl _⟩
   have:=Wa (f:=fun x:ar=>x.1) (xs:=c.1) (k:=lV c.1 e.2.1) (y:=Sy e.2.1 e.2.2.1) (x:=x)
   refine this.trans ⟨fun e=>e.imp (fun e=>⟨e,fun e=>absurd e.1 (by decide)⟩) fun e=>⟨rfl,e⟩,fun e=>e.imp (fun e=>e.1) fun e=>e.2⟩
 rw[h1,cond_false] at hg
 rw[cond_false]
 cases h2:e.1==2
 rotate_left
 ·rw[h2,cond_true] at hg
  rw[cond_true]
  refine ky h hg fun ho=>⟨fun x=>?_,fun x=>⟨fun e=>.inl ⟨e,fun e=>absurd e.1 (by decide)⟩,fun e=>(e.resolve_right fun e=>absurd e.1 (by decide)).1⟩,rfl,fun e=>absurd e (by decide),by show _+0≤_;rw[Int.add_zero];exact Int.le_refl _⟩
  have:=Wa (f:=fun x:aR=>x.1) (xs:=c.2.1) (k:=oU c.2.1 e.2.1) (y:=adT e.2.1 e.2.2.1) (x:=x)
  exact this.trans ⟨fun e=>e.imp id fun e=>⟨rfl,e⟩,fun e=>e.imp id fun e=>e.2⟩
 rw[h2,cond_false] at hg
 rw[cond_false]
 cases h3:e.1==3
 rotate_left
 ·rw[h3,cond_true] at hg
  rw[cond_true]
  revert hg
  show Good (cp c).1→JU (cp c).1
  unfold cp
  cases QI:jM c.1 with
  |none=>exact fun _=>h
  |some ps=>
   simp only[]
   cases gU c.1 c.2.1 ps with
   |none=>exact fun _=>h
   |some ss=>
    cases hp:iC c with
    |false=>exact fun _=>h
    |true=>
     intro hg
     refine ky h hg fun ho=>⟨fun x=>⟨.inl,fun e=>e.resolve_right fun e=>absurd e.1 (by decide)⟩,fun x=>⟨fun e=>.inl ⟨e,fun e=>absurd e.1 (by decide)⟩,fun e=>(e.resolve_right fun e=>absurd e.1 (by decide)).1⟩,?_,fun e=>absurd e (by decide),by show _+0≤_;rw[Int.add_zero];exact Int.le_refl _⟩
     unfold iC at hp
     simp only[Bool.and_eq_true,decide_eq_true_eq] at hp
     refine decide_eq_true fun hz=>?_
     have hz:ps.length=0:=hz
     have:=(vM QI).1
     omega
 rw[h3,cond_false] at hg
 rw[cond_false]
 cases h4:e.1==4
 rotate_left
 ·rw[h4,cond_true] at hg
  rw[cond_true]
  revert hg
  unfold Z0
  cases hm:nH c e.2.2.2 e.2.1 e.2.2.1 with
  |false=>exact fun _=>h
  |true=>
   intro hg
   refine ky h hg fun ho=>⟨fun x=>⟨.inl,fun e=>e.resolve_right fun e=>absurd e.1 (by decide)⟩,fun x=>⟨fun e=>.inl ⟨e,fun e=>absurd e.1 (by decide)⟩,fun e=>(e.resolve_right fun e=>absurd e.1 (by decide)).1⟩,rfl,fun _=>?_,by show _+0≤_;rw[Int.add_zero];exact Int.le_refl _⟩
   unfold nH at hm
   simp only[Bool.and_eq_true,decide_eq_true_eq] at hm
   obtain⟨_,⟨m1,m2⟩,_,_⟩:=hm
   have hs:=(hI.ro.resolve_left (by omega)).2
   unfold c9 at hs
   simp only[Bool.and_eq_true,decide_eq_true_eq] at hs
   obtain⟨_,_,hs⟩:=hs
   rw[dN] at hs
   have:=hs e.2.2.2.toNat (by omega)
   rw[Nat.zero_add] at this
   unfold q9 at this
   simp only[Bool.and_eq_true,decide_eq_true_eq] at this
   show c.2.2.2.1.getD e.2.2.2.toNat 0∈cy c.2.1
   have hf:=this.1
   unfold cw at hf
   obtain⟨k,hk,_,hq,_⟩:=bB (p:=fun x:aR=>x.1==c.2.2.2.1.getD e.2.2.2.toNat 0) (l:=c.2.1) (by omega)
   exact List.mem_map.2 ⟨c.2.1[k],List.getElem_mem hk,by simpa using hq⟩
 rw[h4,cond_false] at hg
 rw[cond_false]
 cases h5:e.1==5
 rotate_left
 ·rw[h5,cond_true] at hg
  rw[cond_true]
  revert hg
  show Good (dp c).1→JU (dp c).1
  unfold dp
  cases hm:jP c with
  |false=>exact fun _=>h
  |true=>
   cases hk:(bU c c.2.2.1 0 c true).2 with
   |false=>exact fun _=>h
   |true=>
    intro hg
    unfold jP at hm
    simp only[Bool.and_eq_true,decide_eq_true_eq] at hm
    obtain⟨hc,hr,hw⟩:=hm
    have hC:=JQ hc hr hw
    have hinv:=qK hC c.2.2.1 0 c true (by simp) (oZ hC)
    have ZZ:=(mV h.g.cl).ZZ
    have hp:=hI.pl
    refine ky h hg fun ho=>⟨fun x=>?_,fun x=>?_,rfl,fun e=>absurd e (by decide),?_⟩
    ·show x∈cy (bU c c.2.2.1 0 c true).1.2.1↔_
     unfold cy
     rw[hinv.ji]
     exact⟨.inl,fun e=>e.resolve_right fun e=>absurd e.1 (by decide)⟩
    ·show x∈br (bU c c.2.2.1 0 c true).1.1↔_
     rw[F3]
     exact⟨fun e=>.inl ⟨e,fun e=>absurd e.1 (by decide)⟩,fun e=>(e.resolve_right fun e=>absurd e.1 (by decide)).1⟩
    ·show c.2.2.2.2.2.2+1≤IntKind.wrap .i64 (c.2.2.2.2.2.2+(List.length c.2.2.1:Int))
     rw[wrap64 (by omega) (by omega)]
     omega
 rw[h5,cond_false] at hg
 rw[cond_false]
 cases h6:e.1==6
 rotate_left
 ·rw[h6,cond_true] at hg
  rw[cond_true]
  revert hg
  unfold Z0
  cases hm:jL c e.2.1 with
  |false=>exact fun _=>h
  |true=>
   intro hg
   refine ky h hg fun ho=>⟨fun x=>⟨.inl,fun e=>e.resolve_right fun e=>absurd e.1 (by decide)⟩,fun x=>?_,rfl,fun e=>absurd e (by decide),by show _+0≤_;rw[Int.add_zero];exact Int.le_refl _⟩
   unfold jL at hm
   simp only[Bool.and_eq_true,decide_eq_true_eq] at hm
   have hk:=(de (l:=c.1) (id:=e.2.1) hm.1).2
   have hid:=(cY (t:=c.1) (a:=e.2.1) hm.1).2
   have hn:=iW hI.t
   have e1:br c.1=br (c.1.take (aw c.1 e.2.1).toNat)++(e.2.1::br (c.1.drop ((aw c.1 e.2.1).toNat+1))):=by
    have h1:c.1=c.1.take (aw c.1 e.2.1).toNat++c.1.drop (aw c.1 e.2.1).toNat:=(List.take_append_drop _ _).symm
    have h2:c.1[(aw c.1 e.2.1).toNat].1=e.2.1:=by
     have:c.1.getD (aw c.1 e.2.1).toNat aj=c.1[(aw c.1 e.2.1).toNat]:=ah _ _ hk _
     rw[←this];exact hid
    rw[List.drop_eq_getElem_cons hk] at h1
    have h3:=congrArg br h1
    unfold br at h3 ⊢
    rw[h3,List.map_append,List.map_cons,h2]
   have e2:br (iO c e.2.1).1=br (c.1.take (aw c.1 e.2.1).toNat)++br (c.1.drop ((aw c.1 e.2.1).toNat+1)):=List.map_append
   rw[e1] at hn
   have hn1:=List.nodup_append.1 hn
   have hn2:=List.nodup_cons.1 hn1.2.1
   show x∈br (iO c e.2.1).1↔_
   rw[e2,e1,List.mem_append,List.mem_append,List.mem_cons]
   constructor
   ·rintro(hx |hx)
    ·exact .inl ⟨.inl hx,fun q=>hn1.2.2 x hx e.2.1 (by simp) q.2⟩
    ·exact .inl ⟨.inr (.inr hx),fun q=>hn2.1 (q.2▸hx)⟩
   ·rintro(⟨hx |hx |hx,nM⟩ |hx)
    ·exact .inl hx
    ·exact absurd ⟨rfl,hx⟩ nM
    ·exact .inr hx
    ·exact absurd hx.1 (by decide)
 ·exact h
theorem Cz {N:Nat} {a b:List Int} {kf:Bool→Option aa} (hl:a.length≤maxLen) (hN:a.length<N):L50 N a b kf=kf (decide (a=b)):=by
 unfold L50
 refine lens (A:=kf true) (fun h=>?_) (fun h=>decide_eq_false fun e=>h (by rw[e]))
 rw[adB hl hN,adM h (kf:=kf false) (fun i x next hi Hw e=>?_)]
 ·cases decide (a=b)<;>rfl
 ·rw[ak Hw,cond_true,Int.toNat_natCast,ah _ _ Hw]
  by_cases hx:x=b[i]
  ·simp[hx]
  ·have:(x != b[i])=true:=by simpa using hx
   rw[this,decide_eq_false hx];rfl
theorem F4 {N:Nat} {a:List Int} {kf:Bool→Option aa} (ha:qF a) (hl:a.length≤1000000) (hN:a.length<N):L59 N a kf=kf true:=by
 have key:∀ (d i n:Nat),(i+d=a.length∨(a.length≤i∧d=0))→1≤i→i≤1000001→d<n→AD a n (kf true) kf (i:Int)=kf true:=by
  intro d
  induction d with
  |zero=>
   intro i n h1 h0 hb h2
   obtain⟨n,rfl⟩:∃ j,n=j+1:=⟨n - 1,by omega⟩
   unfold AD
   rw[decide_eq_false (by omega)]
   rfl
  |succ d ih=>
   intro i n h1 h0 hb h2
   obtain⟨n,rfl⟩:∃ j,n=j+1:=⟨n - 1,by omega⟩
   have hi:i<a.length:=by omega
   have hp:(i:Int) - 1=((i - 1:Nat):Int):=by omega
   have h3:=List.pairwise_iff_getElem.1 ha (i - 1) i (by omega) hi (by omega)
   unfold AD
   rw[decide_eq_true (by omega),cond_true,wrap64 (n:=(i:Int) - 1) (by omega) (by omega),hp,ak (by omega),cond_true,ak hi,cond_true,Int.toNat_natCast,Int.toNat_natCast,ah _ _ hi,ah _ _ (show i - 1<a.length by omega),decide_eq_false (by omega),cond_false,wrap64 (n:=(i:Int)+1) (by omega) (by omega),show(i:Int)+1=((i+1:Nat):Int) by omega]
   exact ih (i+1) n (by omega) (by omega) (by omega) (by omega)
 unfold L59
 exact key (a.length - 1) 1 N (by omega) (by omega) (by omega) (by omega)
theorem aec {N:Nat} {l:List fG} {a:Int} {kf:Int→Option aa} (hl:l.length≤1000000) (hN:l.length<N):I52 N l a kf=kf (vP a l:Int):=by
 have hm:=au
 unfold I52
 rw[adC (by omega) hN,pN (Fs a) (fun i x s next h e=>by unfold Fs;cases x.2.1==a<;>rfl)]
 have:=AO a l 0 0 (by omega)
 rw[Nat.zero_add] at this
 exact congrArg kf this
theorem aed {N:Nat} {l:List fG} {kf:Int→Option aa} (hl:l.length≤1000000) (hN:l.length<N) (h4:4<N):I53 N l kf=kf (bif bW l then(vP 5 l:Int) else 0):=by
 have hm:=au
 unfold I53
 rw[vH (by omega) hN h4]
 cases bW l with
 |false=>rfl
 |true=>exact aec hl hN
theorem arS {N:Nat} {l:List fG} {a:Int} {kf:Int→Option aa} (hl:l.length≤1000000) (hN:l.length<N) (h4:4<N) (hm:bW l=true):I49 N l a kf=kf ((dD l).count a:Int):=by
 have hx:=au
 unfold I49
 rw[vH (by omega) hN h4,hm]
 simp only[Bool.not_true,cond_false]
 rw[adz (by omega) hN,pN (JC a) (fun i x s next h e=>by unfold JC;cases x.2.1==4<;>cases x.2.2.1==a<;>rfl)]
 have:=xZ a l 0 0 (by omega)
 rw[Nat.zero_add] at this
 exact congrArg kf this
theorem arT {N:Nat} {l:List fG} {kf:Bool→Option aa} (hl:l.length≤1000000) (hN:l.length<N) (h4:4<N) (hm:bW l=true):I55 N l kf=kf (l.foldl Ox false):=by
 have hx:=au
 unfold I55
 rw[adE (by omega) hN,pN VI (fun i x s next h e=>by
  unfold VI
  by_cases h3:x.2.1=3
  ·simp[h3]
  ·by_cases h5:x.2.1=5
   ·simp[h5]
   ·have e3:(x.2.1==3)=false:=by simpa using h3
    have e5:(x.2.1==5)=false:=by simpa using h5
    simp[e3,e5]),Ip]
 cases l.foldl Ox false with
 |false=>rfl
 |true=>
  rw[cond_true,vH (by omega) hN h4,hm]
theorem Oz {N:Nat} {l:List fG} {k:List Int→Int→Option aa} (hm:bW l=true) (hl:l.length≤200) (hN:300<N):∀ (r:List aR) (i:Nat) (s:List Int) (n:Nat),s.length+r.length≤100→n+200*r.length≤1000000→
  He (fun(i:Nat) (x:aR) (lL:(List Int)) (ui:Int) (next:(List Int)→Int→Option aa)=>
    bif (decide ((List.length lL+List.length [x.1])*1≤4398046511104)) then
     I49 N l x.1 (fun(Fp:Int)=>
      next (lL++[x.1]) (IntKind.wrap .i64 (ui+Fp)))
    else none) k r i s (n:Int)=k (s++cy r) ((n+((cy r).map fun a=>(dD l).count a).sum:Nat):Int)
 |[],i,s,n,_,_=>by simp[He,cy]
 |x::r,i,s,n,h1,h2=>by
  simp only[List.length_cons] at h1 h2
  have hc:(dD l).count x.1≤200:=by
   refine Nat.le_trans List.count_le_length ?_
   unfold dD
   rw[List.length_map]
   exact Nat.le_trans (List.length_filter_le _ _) hl
  simp only[He]
  rw[decide_eq_true (by simp;omega),cond_true,arS (by omega) (by omega) (by omega) hm,wrap64 (by omega) (by omega),show(n:Int)+((dD l).count x.1:Int)=((n+(dD l).count x.1:Nat):Int) by omega,Oz hm hl hN r (i+1) _ _ (by simp;omega) (by omega)]
  congr 1
  ·unfold cy;simp
  ·unfold cy;simp only[List.map_cons,List.sum_cons];omega
theorem OA {k:List Int→Option aa}:∀ (r:List ar) (i:Nat) (s:List Int),s.length+r.length≤100→
  bI (fun(i:Nat) (x:ar) (jE:(List Int)) (next:(List Int)→Option aa)=>
    bif (decide ((List.length jE+List.length [x.1])*1≤4398046511104)) then
     next (jE++[x.1])
    else none) k r i s=k (s++br r)
 |[],i,s,_=>by simp[bI,br]
 |x::r,i,s,h=>by
  simp only[List.length_cons] at h
  simp only[bI]
  rw[decide_eq_true (by simp;omega),cond_true,OA r (i+1) _ (by simp;omega)]
  unfold br
  simp
theorem sX:∀ (l:List fG) (s:List Int),qF s→qF (l.foldl gI s)
 |[],s,h=>h
 |x::r,s,h=>sX r _ (by unfold gI;cases x.2.1==2;exact h;exact il h)
theorem sY:∀ (l:List fG) (s:List Int),qF s→qF (l.foldl eE s)
 |[],s,h=>h
 |x::r,s,h=>sY r _ (by
  unfold eE
  cases x.2.1==1
  ·cases x.2.1==6
   ·exact h
   ·exact List.Pairwise.sublist List.filter_sublist h
  ·exact il h)
theorem OB {t:List ar} (h:ay t=true):qF (br t):=by
 unfold ay at h
 simp only[Bool.and_eq_true] at h
 have hm:=qB h.2.1
 refine List.pairwise_iff_getElem.2 fun j i hj hi kS=>?_
 unfold br at hj hi
 rw[List.length_map] at hj hi
 have:=hm j i hi kS
 rw[ah _ _ hj] at this
 unfold br
 simpa using this
theorem x4 {l:List aR} (h:bw l=true):qF (cy l):=by
 unfold bw at h
 simp only[Bool.and_eq_true] at h
 have h2:=dN.1 h.2
 have hm:=N7 (l:=l) (z:=cg) (g:=fun x:aR=>x.1) fun i hi h0=>by
  have:=h2 i hi
  rw[Nat.zero_add] at this
  unfold mO at this
  simp only[Bool.and_eq_true,Bool.or_eq_true,decide_eq_true_eq] at this
  exact this.2.2.1.resolve_left (by omega)
 refine List.pairwise_iff_getElem.2 fun j i hj hi kS=>?_
 unfold cy at hj hi
 rw[List.length_map] at hj hi
 have:=hm j i hi kS
 rw[ah _ _ hj] at this
 unfold cy
 simpa using this
theorem OC:∀ (l:List QL) {c:aF},JU c→JU (runM c l)
 |[],c,h=>h
 |e::l,c,h=>OC l (Oy h e)
theorem JV {N:Nat} {a:List Int} (ha:a.length≤1048576) (hN:4000<N):∃ l:List fG,l.length≤200∧∀ kf,ade N a kf=kf l:=by
 obtain⟨l,hl,_,e1⟩:=F0 (N:=N) ha (by omega)
 have hS:=mV (Ow l tR).cl
 have e2:∀ kf,S63 N Ov l kf=kf (runM Ov l):=fun kf=>arO ((mV tR.cl).evC (by omega)) (by omega) (by omega) (by omega)
 obtain⟨c0,G0,e3⟩:=Ou (N:=N) ha (by omega)
 obtain⟨b,c1,hc1,e4⟩:=once (N:=N) (n:=4) (by omega) (by omega) G0
 unfold ade
 simp only[e1,e2,e3,e4]
 cases b with
 |true=>
  obtain⟨t,c2,QU,h1,e5⟩:=JT (N:=N) (by omega) c1 hc1
  exact⟨t,by omega,fun kf=>by simp only[cond_true,e5]⟩
 |false=>exact⟨_,hS.ad7,fun kf=>by simp only[cond_false]⟩
theorem Z7 (a:List Int) (h:wfs [.sl (.int .u8)] (a,())):∃ N,∀ kf,L8 N a kf=kf true:=by
 obtain⟨N,hN⟩:∃ N:Nat,N=5000:=⟨_,rfl⟩
 refine⟨N,fun kf=>?_⟩
 have hx:=au
 unfold L8 arj L11
 by_cases hb:(List.length a:Int)>1048576
 ·rw[decide_eq_true hb];rfl
 rw[decide_eq_false hb]
 simp only[cond_false]
 obtain⟨l,hl,_,e1⟩:=F0 (N:=N) (a:=a) (by omega) (by omega)
 have hP:=OC l Z6
 have hG:=hP.g
 have hI:=qM hG.cl
 have hS:=mV hG.cl
 have e2:∀ kf,I43 N Ov l kf=kf (runM Ov l):=fun kf=>arP ((mV tR.cl).evC (by omega)) (by omega) (by omega) (by omega)
 rw[e1,e2]
 generalize runM Ov l=c at*
 have ad7:=hS.ad7
 have t10:=hS.t10
 have SF:=hS.SF
 have rU:(cy c.2.1).length=c.2.1.length:=List.length_map ..
 have htl:(br c.1).length=c.1.length:=List.length_map ..
 have ej:fg c.2.2.2.2.2.1=cy c.2.1:=by
  unfold fg
  rw[hI.m,cond_true]
  exact tM (sX _ _ List.Pairwise.nil) (x4 hI.j) hP.j
 have et:eF c.2.2.2.2.2.1=br c.1:=by
  unfold eF
  rw[hI.m,cond_true]
  exact tM (sY _ _ List.Pairwise.nil) (OB hI.t) hP.t
 have aw5:((cy c.2.1).map fun a=>(dD c.2.2.2.2.2.1).count a).sum=vP 4 c.2.2.2.2.2.1:=by
  rw[vI ((x4 hI.j).imp fun h=>by omega) _ hP.f]
  unfold dD vP
  rw[List.length_map]
 rw[ajj (by omega) (by omega)]
 refine(Oz hI.m ad7 (by omega) c.2.1 0 [] 0 (by simp;omega) (by omega)).trans ?_
 rw[Nat.zero_add,aw5,List.nil_append,adO (by omega) (by omega) (by omega),ej,Cz (by omega) (by omega),decide_eq_true rfl]
 simp only[Bool.not_true,cond_false]
 rw[aec (by omega) (by omega)]
 simp only[bne_self_eq_false,cond_false]
 rw[aed (by omega) (by omega) (by omega),hI.m,cond_true,decide_eq_false (by have:=hP.r;omega),cond_false,adH (by omega) (by omega),OA c.1 0 [] (by simp;omega),List.nil_append,adP (by omega) (by omega) (by omega),et,Cz (by omega) (by omega),decide_eq_true rfl]
 simp only[Bool.not_true,cond_false]
 rw[arT (by omega) (by omega) (by omega) hI.m,hP.o]
 unfold Vs
 have er:decide ((List.length c.2.2.1:Int)>0)=decide (c.2.2.1.length≠0):=decide_eq_decide.2 (by omega)
 rw[er]
 simp only[beq_self_eq_true,Bool.not_true,cond_false]
 obtain⟨m,hm,e3⟩:=JV (N:=N) (a:=a) (by omega) (by omega)
 unfold S56 S57
 simp only[e3]
 have htm:(eF m).length≤m.length:=JN m
 have wZ:(fg m).length≤m.length:=Hg m
 have ha1:qF (eF m):=by
  unfold eF
  cases bW m
  ·exact List.Pairwise.nil
  ·exact sY _ _ List.Pairwise.nil
 have ha2:qF (fg m):=by
  unfold fg
  cases bW m
  ·exact List.Pairwise.nil
  ·exact sX _ _ List.Pairwise.nil
 have t1:∀ k,I54 N m k=k (eF m):=fun k=>adP (by omega) (by omega) (by omega)
 have t2:∀ k,S58 N m k=k (eF m):=fun k=>arA (by omega) (by omega) (by omega)
 have t3:∀ k,I51 N m k=k (fg m):=fun k=>adO (by omega) (by omega) (by omega)
 have t4:∀ k,L59 N (eF m) k=k true:=fun k=>F4 ha1 (by omega) (by omega)
 have t5:∀ k,L59 N (fg m) k=k true:=fun k=>F4 ha2 (by omega) (by omega)
 have t6:∀ k,I53 N m k=k (bif bW m then(vP 5 m:Int) else 0):=fun k=>aed (by omega) (by omega) (by omega)
 simp only[t1,t2,t3,t4,t5,t6,bne_self_eq_false,cond_false,cond_true]
 have hw:vP 5 m≤m.length:=List.length_filter_le _ _
 refine congrArg kf (decide_eq_true ?_)
 cases bW m
 ·simp only[cond_false];omega
 ·simp only[cond_true];omega
end Go.Pv.R
namespace Go.Pv.R
set_option linter.unusedVariables false
set_option linter.unusedSimpArgs false
end Go.Pv.R
namespace Go.Pv.R
set_option linter.unusedVariables false
set_option linter.unusedSimpArgs false
end Go.Pv.R
