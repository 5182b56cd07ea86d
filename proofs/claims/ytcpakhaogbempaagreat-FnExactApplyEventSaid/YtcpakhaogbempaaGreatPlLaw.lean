/- The law over the plain functions. -/
import Derived.Test.YtcpakhaogbempaaGreatPlHz
namespace Go.Pv.R
set_option linter.unusedVariables false
set_option linter.unusedSimpArgs false
end Go.Pv.R
namespace Go.Pv.R
set_option linter.unusedVariables false
set_option linter.unusedSimpArgs false
theorem lx {N:Nat} {a b c:Int} {kf:Bool→Option aa}:gn N a b c kf=kf (gK a b c):=by
 unfold gn gK
 by_cases h:b≤a<;>simp[h]
theorem nf {N:Nat} {a b c:Int} {kf:Bool→Option aa}:eD N a b c kf=kf (gK a b c):=by
 unfold eD gK
 by_cases h:b≤a<;>simp[h]
theorem aeX {left:Int} {s:Nat} {A B:Option aa} (h0:0≤left) (h:(s:Int)≤left→B=A):(bif decide (kW left s<0) then A else B)=A:=by
 by_cases hn:kW left s<0
 ·rw[decide_eq_true hn];rfl
 ·rw[decide_eq_false hn,cond_false]
  exact h (by have:=(Wl (s:=s) h0);omega)
end Go.Pv.R
namespace Go.Pv.R
set_option linter.unusedVariables false
set_option linter.unusedSimpArgs false
theorem HD (a:Int):(a.tmod 2147483647=a%2147483647∧0≤a)∨(a.tmod 2147483647=-((-a)%2147483647)∧a<0):=by
 rcases Int.lt_or_le a 0 with h |h
 ·right
  refine⟨?_,h⟩
  have h1:(-a).tmod 2147483647=(-a)%2147483647:=Int.tmod_eq_emod_of_nonneg (by omega)
  rw[Int.neg_tmod] at h1
  omega
 ·exact .inl ⟨Int.tmod_eq_emod_of_nonneg h,h⟩
theorem akP {N:Nat} {a:Int} {kf:Int→Option aa}:aed N a 2147483647 kf=kf (a%2147483647):=by
 unfold aed
 rw[lx,show gK 2147483647 1 1000000000000=true from by decide]
 have e:(decide ((2147483647:Int)=0))=false:=by decide
 simp only[Bool.not_true,cond_false,e,Bool.not_false,cond_true]
 congr 1
 rcases HD a with⟨h,h'⟩ |⟨h,h'⟩<;>rw[h,wrap64 (by omega) (by omega),Int.tmod_eq_emod_of_nonneg (by omega)]<;>omega
theorem akQ {N:Nat} {a:Int} {kf:Int→Option aa}:ajH N a 2147483647 kf=kf (a%2147483647):=by
 unfold ajH
 rw[nf,show gK 2147483647 1 1000000000000=true from by decide]
 have e:(decide ((2147483647:Int)=0))=false:=by decide
 simp only[Bool.not_true,cond_false,e,Bool.not_false,cond_true]
 rcases HD a with⟨h,h'⟩ |⟨h,h'⟩<;>rw[h]
 ·rw[decide_eq_false (by omega),cond_false]
 ·by_cases hz: -((-a)%2147483647)<0
  ·rw[decide_eq_true hz,cond_true,wrap64 (by omega) (by omega)]
   congr 1
   omega
  ·rw[decide_eq_false hz,cond_false]
   congr 1
   omega
def foldM (i:Nat) (x s:Int):Int:=Int.tmod (IntKind.wrap .i64 ((IntKind.wrap .i64 ((IntKind.wrap .i64 (s*(1000003:Int)))+x%2147483647))+(13:Int))) (2147483647:Int)
def aeY (l:List Int):Int:=foldI foldM l 0 11
theorem akR {N:Nat} {l:List Int} {kf:Int→Option aa} (hl:l.length≤maxLen) (hN:l.length<N):aj7 N l kf=kf (aeY l):=by
 unfold aj7
 rw[aaC hl hN,Aq foldM (fun i x s next h e=>by rw[akP];rfl)]
 rfl
theorem akS {N:Nat} {l:List Int} {kf:Int→Option aa} (hl:l.length≤maxLen) (hN:l.length<N):ajJ N l kf=kf (aeY l):=by
 unfold ajJ
 rw[aah hl hN,Aq foldM (fun i x s next h e=>by unfold ajI;rw[akQ];rfl)]
 rfl
def Ct (s:Int) (x:QL):Int:=aeY [s,x.1,x.2.1,x.2.2.1]
theorem WC {N:Nat} {s:Int} {x:QL} {kf:Int→Option aa} (hN:4<N):Sx N s x kf=kf (Ct s x):=by
 unfold Sx
 rw[akR (by rw[aw];simp) (by simpa using hN)]
 rfl
theorem WD {N:Nat} {s:Int} {x:QL} {kf:Int→Option aa} (hN:4<N):R0 N s x kf=kf (Ct s x):=by
 unfold R0
 rw[akS (by rw[aw];simp) (by simpa using hN)]
 rfl
def NG:List QL→Nat→Int→Bool
 |[],_,_=>true
 |x::r,i,s=>(x.1==((i+1:Nat):Int))&&gK x.2.1 1 9&&gK x.2.2.1 0 99&&(x.2.2.2==Ct s x)&&NG r (i+1) x.2.2.2
def gY (l:List QL):Bool:=decide (l.length≤200)&&NG l 0 0
theorem WE {N:Nat} {l:List QL} {kf:Bool→Option aa} (hl:l.length≤maxLen) (hN:l.length<N) (h4:4<N):aef N l kf=kf (gY l):=by
 unfold aef
 rw[aaD hl hN]
 by_cases hc:l.length≤200
 ·have h1:(decide ((l.length:Int)≤200))=true:=decide_eq_true (by omega)
  have key:∀ (r:List QL) (i:Nat) (s:Int),l.drop i=r→bR (fun(i:Nat) (x:QL) (ao:Int) (next:Int→Option aa)=>
    bif (decide ((List.length l:Int)≤(200:Int))) then
     Sx N ao x (fun(gv:Int)=>
      bif (x.1 != (IntKind.wrap .i64 ((i:Int)+(1:Int)))) then kf false
      else
       gn N x.2.1 (1:Int) (9:Int) (fun(Nw:Bool)=>
        bif (!Nw) then kf false
        else
         gn N x.2.2.1 (0:Int) (99:Int) (fun(Nx:Bool)=>
          bif (!Nx) then kf false
          else
           bif (x.2.2.2 != gv) then kf false
           else next gv)))
    else kf (decide ((List.length l:Int)≤(200:Int)))) (fun(ao:Int)=>kf (decide ((List.length l:Int)≤(200:Int)))) r i s=kf (NG r i s):=by
   intro r
   induction r with
   |nil=>intro i s _;simp only[bR,NG,h1]
   |cons x r ih=>
    intro i s hd
    have cP:i<l.length:=by have:=congrArg List.length hd;simp at this;omega
    rw[List.drop_eq_getElem_cons cP] at hd
    injection hd with e1 e2
    simp only[bR,NG]
    simp only[ih (i+1) _ e2]
    simp only[h1,cond_true,WC h4,lx,fG cP hl]
    cases hx:(x.1==((i+1:Nat):Int)) with
    |false=>simp only[bne,hx,Bool.not_false,cond_true,Bool.false_and]
    |true=>
     simp only[bne,hx,Bool.not_true,cond_false,Bool.true_and]
     cases gK x.2.1 1 9<;>simp
     cases gK x.2.2.1 0 99<;>simp
     by_cases hs:x.2.2.2=Ct s x
     ·simp[hs]
     ·have:(x.2.2.2==Ct s x)=false:=by simpa using hs
      simp[this]
  refine Eq.trans (key l 0 0 rfl) ?_
  unfold gY
  simp[hc]
 ·have h1:(decide ((l.length:Int)≤200))=false:=decide_eq_false (by omega)
  cases l with
  |nil=>simp at hc
  |cons x r=>
   simp only[bR,h1,cond_false]
   unfold gY
   rw[decide_eq_false hc]
   rfl
theorem aeZ {N:Nat} {l:List QL} {kf:Bool→Option aa} (hl:l.length≤maxLen) (hN:l.length<N) (h4:4<N):I75 N l kf=kf (gY l):=by
 unfold I75
 by_cases hc:l.length≤200
 ·have h1:(decide ((l.length:Int)>200))=false:=decide_eq_false (by omega)
  rw[h1,cond_false,aeA hl hN]
  have key:∀ (r:List QL) (i:Nat) (s:Int),l.drop i=r→bR (fun(i:Nat) (x:QL) (bF:Int) (next:Int→Option aa)=>
    bif (x.1 != (IntKind.wrap .i64 ((i:Int)+(1:Int)))) then kf false
    else
     eD N x.2.1 (1:Int) (9:Int) (fun(xk:Bool)=>
      bif (!xk) then kf false
      else
       eD N x.2.2.1 (0:Int) (99:Int) (fun(Nc:Bool)=>
        bif (!Nc) then kf false
        else
         R0 N bF x (fun(Nd:Int)=>
          bif (x.2.2.2 != Nd) then kf false
          else next x.2.2.2)))) (fun(bF:Int)=>kf true) r i s=kf (NG r i s):=by
   intro r
   induction r with
   |nil=>intro i s _;simp only[bR,NG]
   |cons x r ih=>
    intro i s hd
    have cP:i<l.length:=by have:=congrArg List.length hd;simp at this;omega
    rw[List.drop_eq_getElem_cons cP] at hd
    injection hd with e1 e2
    simp only[bR,NG]
    simp only[ih (i+1) _ e2]
    simp only[WD h4,nf,fG cP hl]
    cases hx:(x.1==((i+1:Nat):Int)) with
    |false=>simp only[bne,hx,Bool.not_false,cond_true,Bool.false_and]
    |true=>
     simp only[bne,hx,Bool.not_true,cond_false,Bool.true_and]
     cases gK x.2.1 1 9<;>simp
     cases gK x.2.2.1 0 99<;>simp
     by_cases hs:x.2.2.2=Ct s x
     ·simp[hs]
     ·have:(x.2.2.2==Ct s x)=false:=by simpa using hs
      simp[this]
  refine Eq.trans (key l 0 0 rfl) ?_
  unfold gY
  simp[hc]
 ·have h1:(decide ((l.length:Int)>200))=true:=decide_eq_true (by omega)
  rw[h1,cond_true]
  unfold gY
  rw[decide_eq_false hc]
  rfl
end Go.Pv.R
namespace Go.Pv
set_option linter.unusedVariables false
set_option linter.unusedSimpArgs false
theorem Fh {α:Type} {p:α→Bool}:∀ {l:List α} {i k:Nat},gJ p l i=some k→∃ j,∃ h:j<l.length,k=i+j∧p l[j]=true∧∀ j' (h':j'<j),p (l[j']'(by omega))=false
 |[],i,k,h=>by cases h
 |x::r,i,k,h=>by
  simp only[gJ] at h
  cases hp:p x with
  |true=>
   rw[hp] at h
   injection h with h
   exact⟨0,by simp,by omega,hp,fun j' h'=>by omega⟩
  |false=>
   rw[hp] at h
   obtain⟨j,hj,e,h1,h2⟩:=Fh (l:=r) h
   refine⟨j+1,by simpa using hj,by omega,h1,fun j' h'=>?_⟩
   cases j' with
   |zero=>exact hp
   |succ j'=>exact h2 j' (by omega)
theorem Fi {α:Type} {p:α→Bool}:∀ {l:List α} {i:Nat},gJ p l i=none→∀ j (h:j<l.length),p l[j]=false
 |[],i,h,j,hj=>by simp at hj
 |x::r,i,h,j,hj=>by
  simp only[gJ] at h
  cases hp:p x with
  |true=>rw[hp] at h;cases h
  |false=>
   rw[hp] at h
   cases j with
   |zero=>exact hp
   |succ j=>exact Fi (l:=r) h j (by simpa using hj)
theorem je {α:Type} {body:Nat→α→Option aa→Option aa} {bD:Option aa} {kf:Nat→Option aa} {p:α→Bool} (hb:∀ (i:Nat) (x:α) (next:Option aa),body i x next=bif p x then kf i else next):∀ (l:List α) (i:Nat),kF body bD l i=match gJ p l i with
  |some k=>kf k
  |none=>bD
 |[],_=>rfl
 |x::r,i=>by
  simp only[kF,gJ]
  rw[hb]
  cases p x
  ·exact je hb r (i+1)
  ·rfl
def fA {α:Type} (p:α→Bool) (l:List α):Int:=match gJ p l 0 with
 |some k=>(k:Int)
 |none=>-1
theorem bW {α:Type} {p:α→Bool} {l:List α} (h: ¬fA p l<0):∃ k:Nat,∃ hk:k<l.length,fA p l=(k:Int)∧p l[k]=true∧∀ j (hj:j<k),p (l[j]'(by omega))=false:=by
 unfold fA at*
 split at h
 ·rename_i k hk
  obtain⟨j,hj,e,h1,h2⟩:=Fh hk
  obtain rfl:k=j:=by omega
  exact⟨k,hj,rfl,h1,h2⟩
 ·omega
theorem AE {α:Type} {p:α→Bool} {l:List α} (h:fA p l<0):fA p l=-1∧∀ j (hj:j<l.length),p l[j]=false:=by
 unfold fA at*
 split at h
 ·omega
 ·rename_i hn
  exact⟨rfl,Fi hn⟩
theorem Fj {α:Type} {p q:Nat→α→Bool}:∀ {l:List α} {i:Nat},allI (fun i x=>p i x&&q i x) l i=(allI p l i&&allI q l i)
 |[],_=>rfl
 |x::r,i=>by
  simp only[allI,Fj (l:=r)]
  cases p i x<;>cases q i x<;>cases allI p r (i+1)<;>simp
theorem SG {α:Type} {p q:Nat→α→Bool} {l:List α} (h:∀ (j:Nat) (hj:j<l.length),p j l[j]=q j l[j]):allI p l 0=allI q l 0:=by
 apply Bool.eq_iff_iff.2
 rw[fx,fx]
 constructor
 ·intro h1 j hj;have:=h1 j hj;rw[Nat.zero_add] at*;rw[←h j hj];exact this
 ·intro h1 j hj;have:=h1 j hj;rw[Nat.zero_add] at*;rw[h j hj];exact this
theorem oh {i m:Nat} (h0:0<i) (h:i<m) (hm:m≤maxLen):IntKind.wrap .i64 ((i:Int) - 1)=((i - 1:Nat):Int):=by
 have:=aw
 rw[wrap64]<;>omega
end Go.Pv
namespace Go.Pv.R
set_option linter.unusedVariables false
set_option linter.unusedSimpArgs false
abbrev aB:=QT
def aF (l:List aB) (id:Int):Int:=fA (fun x:aB=>x.1==id) l
theorem jf {N:Nat} {l:List aB} {id:Int} {kf:Int→Option aa} (hl:l.length≤maxLen) (hN:l.length<N):uY N l id kf=kf (aF l id):=by
 unfold uY
 rw[aau hl hN,je (p:=fun x:aB=>x.1==id) (kf:=fun i=>kf (i:Int)) (fun i x next=>rfl)]
 unfold aF fA
 cases gJ (fun x:aB=>x.1==id) l 0<;>rfl
theorem mn {N:Nat} {l:List aB} {id:Int} {kf:Int→Option aa} (hl:l.length≤maxLen) (hN:l.length<N):Nb N l id kf=kf (aF l id):=by
 unfold Nb atJ
 rw[aag hl hN]
 simp only[ajF]
 rw[je (p:=fun x:aB=>x.1==id) (kf:=fun i=>kf (i:Int)) (fun i x next=>rfl)]
 unfold aF fA
 cases gJ (fun x:aB=>x.1==id) l 0<;>rfl
def mo (l:List Int) (n:Int):Int:=foldI (fun i x s=>bif x==n then IntKind.wrap .i64 (s+1) else s) l 0 0
theorem WG {N:Nat} {l:List Int} {n:Int} {kf:Int→Option aa} (hl:l.length≤maxLen) (hN:l.length<N):Sn N l n kf=kf (mo l n):=by
 unfold Sn
 rw[aav hl hN,Aq (fun i x s=>bif x==n then IntKind.wrap .i64 (s+1) else s) (fun i x s next h e=>by cases x==n<;>rfl)]
 rfl
theorem SH {N:Nat} {l:List Int} {n:Int} {kf:Int→Option aa} (hl:l.length≤maxLen) (hN:l.length<N):I78 N l n kf=kf (mo l n):=by
 unfold I78
 rw[aeB hl hN,Aq (fun i x s=>bif x==n then IntKind.wrap .i64 (s+1) else s) (fun i x s next h e=>by cases x==n<;>rfl)]
 rfl
abbrev aB.met (x:aB):List Int:=x.2.2.2.2.2
def jz (l:List aB) (i:Nat) (x:aB):Bool:=gK x.1 1 99&&(gK x.2.1 1 99&&(gK x.2.2.1 0 x.met.length&&(gK x.2.2.2.2.1 0 x.met.length&&(gK x.2.2.2.1 0 100000&&(decide (x.met.length≤20)&&(decide (i=0)||decide ((l.getD (i - 1) au).1<x.1)))))))
def I' (l:List aB) (x:aB) (id:Int):Bool:=!decide (aF l id<0)&&(!(id==x.1)&&(mo x.met id==mo (l.getD (aF l id).toNat au).met x.1))
def aG (l:List aB):Bool:=decide (l.length≤10)&&(allI (jz l) l 0&&allI (fun _ x=>x.met.all (I' l x)) l 0)
def Ja (l:List aB) (i:Nat) (x:aB) (id:Int):Bool:=!decide (aF l id<0)&&(!(aF l id==(i:Int))&&(mo (l.getD (aF l id).toNat au).met x.1==mo x.met (l.getD (aF l id).toNat au).1))
theorem xw {α:Type} {p:α→Bool}:∀ {l:List α} {i:Nat},allI (fun _ x=>p x) l i=l.all p
 |[],_=>rfl
 |x::r,i=>by simp only[allI,List.all_cons,xw (l:=r)]
theorem u7 {l:List aB} (h:allI (jz l) l 0=true):∀ (j i:Nat) (hi:i<l.length),j<i→(l.getD j au).1<l[i].1:=by
 rw[fx] at h
 have step:∀ (i:Nat) (hi:i<l.length),0<i→(l.getD (i - 1) au).1<l[i].1:=fun i hi h0=>by
  have:=h i hi
  rw[Nat.zero_add] at this
  simp only[jz,Bool.and_eq_true,Bool.or_eq_true,decide_eq_true_eq] at this
  omega
 intro j i hi la
 induction i with
 |zero=>omega
 |succ i ih=>
  have h1:=step (i+1) hi (by omega)
  rw[Nat.add_sub_cancel,ai _ _ (show i<l.length by omega)] at h1
  rcases Nat.lt_or_eq_of_le (Nat.le_of_lt_succ la) with h2 |rfl
  ·have:=ih (by omega) h2;omega
  ·rw[ai _ _ (by omega)];exact h1
theorem Fl {l:List aB} (h:allI (jz l) l 0=true) {i:Nat} (hi:i<l.length) {id:Int}:aF l id=(i:Int)↔id=l[i].1:=by
 constructor
 ·intro e
  obtain⟨k,hk,e1,h1,_⟩:=bW (p:=fun x:aB=>x.1==id) (l:=l) (by unfold aF at e;omega)
  unfold aF at e
  obtain rfl:k=i:=by omega
  exact(beq_iff_eq.1 h1).symm
 ·rintro rfl
  unfold aF
  by_cases hn:fA (fun x:aB=>x.1==l[i].1) l<0
  ·have:=(AE hn).2 i hi
   simp at this
  ·obtain⟨k,hk,e1,h1,h2⟩:=bW hn
   rw[e1]
   have h1:l[k].1=l[i].1:=by simpa using h1
   rcases Nat.lt_trichotomy k i with cP |rfl |cP
   ·have:=u7 h k i hi cP
    rw[ai _ _ hk] at this
    omega
   ·rfl
   ·have:=h2 i cP
    simp at this
theorem akT {l:List aB} (h:allI (jz l) l 0=true) {i:Nat} (hi:i<l.length) (id:Int):Ja l i l[i] id=I' l l[i] id:=by
 unfold Ja I'
 by_cases hn:aF l id<0
 ·simp[hn]
 ·rw[decide_eq_false hn,Bool.not_false,Bool.true_and,Bool.true_and]
  have e1:(aF l id==(i:Int))=(id==l[i].1):=by
   apply Bool.eq_iff_iff.2
   rw[beq_iff_eq,beq_iff_eq]
   exact Fl h hi
  rw[e1]
  obtain⟨k,hk,e2,h2,_⟩:=bW (p:=fun x:aB=>x.1==id) hn
  have e3:aF l id=(k:Int):=e2
  rw[e3,Int.toNat_natCast,ai _ _ hk,show l[k].1=id by simpa using h2]
  congr 1
  apply Bool.eq_iff_iff.2
  rw[beq_iff_eq,beq_iff_eq]
  exact⟨fun h=>h.symm,fun h=>h.symm⟩
theorem NH (l:List aB):(allI (fun i x=>jz l i x&&x.met.all (Ja l i x)) l 0&&decide (l.length≤10))=aG l:=by
 unfold aG
 rw[Fj]
 cases h:allI (jz l) l 0 with
 |false=>simp
 |true=>
  have:allI (fun i x=>x.met.all (Ja l i x)) l 0=allI (fun _ x=>x.met.all (I' l x)) l 0:=SG fun j hj=>by
   congr 1
   funext id
   exact akT h hj id
  rw[this]
  cases decide (l.length≤10)<;>simp
theorem j8 {N:Nat} {l:List aB} {kf:Bool→Option aa} (hl:l.length≤maxLen) (hm:∀ x∈l,x.met.length≤maxLen∧x.met.length<N) (hN:l.length<N):tu N l kf=kf (aG l):=by
 unfold tu
 rw[aax hl hN,fP (l:=l) (p:=fun i x=>jz l i x&&x.met.all (Ja l i x)) (kf:=kf false) (fun i x next h e=>?_) l 0 rfl,←NH]
 ·cases allI (fun i x=>jz l i x&&x.met.all (Ja l i x)) l 0
  ·rfl
  ·simp only[cond_true,Bool.true_and]
   congr 1
   apply Bool.eq_iff_iff.2
   simp
   omega
 ·have hx:x∈l:=by rw[←e];exact List.getElem_mem h
  obtain⟨m1,m2⟩:=hm x hx
  have inner:iZ N l (i:Int) x N next kf (0:Int)=bif x.met.all (Ja l i x) then next else kf false:=by
   rw[aaw m1 m2,fP (l:=x.met) (p:=fun _ id=>Ja l i x id) (kf:=kf false) (fun j id next' hj ej=>?_) x.met 0 rfl,xw]
   rw[jf hl hN]
   unfold Ja
   by_cases hn:aF l id<0
   ·simp[hn]
   ·rw[decide_eq_false hn,cond_false,Bool.not_false,Bool.true_and]
    cases hf:aF l id==(i:Int)
    ·obtain⟨k,hk,e2,h2,_⟩:=bW (p:=fun x:aB=>x.1==id) hn
     have e3:aF l id=(k:Int):=e2
     obtain⟨q1,q2⟩:=hm l[k] (List.getElem_mem hk)
     rw[cond_false,e3,an hk,cond_true,cond_true,Int.toNat_natCast,ai _ _ hk,WG q1 q2,WG m1 m2]
     cases hc:(mo l[k].met x.1==mo x.met l[k].1)<;>simp[bne,hc]
    ·simp
  have ord:∀ A B:Option aa,(bif (decide ((i:Int)>(0:Int))) then
    bif (aN (IntKind.wrap .i64 ((i:Int) - (1:Int))) (List.length l)) then
     bif (decide ((List.getD l (Int.toNat (IntKind.wrap .i64 ((i:Int) - (1:Int)))) au).1≥x.1)) then A else B
    else none
   else B)=bif (decide (i=0)||decide ((l.getD (i - 1) au).1<x.1)) then B else A:=fun A B=>by
   by_cases h0:i=0
   ·subst h0;simp
   ·rw[decide_eq_true (show(i:Int)>0 by omega),cond_true,oh (by omega) h hl,an (by omega),cond_true,Int.toNat_natCast,decide_eq_false h0,Bool.false_or]
    by_cases hc:(l.getD (i - 1) au).1<x.1
    ·rw[decide_eq_false (by omega),decide_eq_true hc];rfl
    ·rw[decide_eq_true (by omega),decide_eq_false hc];rfl
  simp only[lx,inner,ord]
  unfold jz
  cases gK x.1 1 99<;>simp
  cases gK x.2.1 1 99<;>simp
  cases gK x.2.2.1 0 x.met.length<;>simp
  cases gK x.2.2.2.2.1 0 x.met.length<;>simp
  cases gK x.2.2.2.1 0 100000<;>simp
  by_cases Cu:x.met.length≤20
  ·rw[decide_eq_false (show ¬(20:Int)<(x.met.length:Int) by omega),decide_eq_true Cu]
   simp
   cases (decide (i=0)||decide ((l[i - 1]?.getD au).1<x.1))<;>simp
  ·rw[decide_eq_true (show(20:Int)<(x.met.length:Int) by omega),decide_eq_false Cu]
   simp
theorem ly {N:Nat} {l:List aB} {kf:Bool→Option aa} (hl:l.length≤maxLen) (hm:∀ x∈l,x.met.length≤maxLen∧x.met.length<N) (hN:l.length<N):As N l kf=kf (aG l):=by
 unfold As
 by_cases h10:l.length≤10
 rotate_left
 ·rw[decide_eq_true (by omega),cond_true]
  unfold aG
  rw[decide_eq_false h10]
  rfl
 rw[decide_eq_false (by omega),cond_false]
 rw[aai hl hN,fP (l:=l) (p:=fun i x=>jz l i x&&x.met.all (I' l x)) (kf:=kf false) (fun i x next h e=>?_) l 0 rfl]
 ·unfold aG
  rw[decide_eq_true h10,Bool.true_and,Fj]
  cases (allI (jz l) l 0&&allI (fun _ x=>x.met.all (I' l x)) l 0)<;>rfl
 ·have hx:x∈l:=by rw[←e];exact List.getElem_mem h
  obtain⟨m1,m2⟩:=hm x hx
  have inner:gL N l x l (List.length l:Int) (i:Int) x.2.2.2.2.2 (List.length x.2.2.2.2.2:Int) N next kf (0:Int)=bif x.met.all (I' l x) then next else kf false:=by
   rw[SC m1 m2,fP (l:=x.met) (p:=fun _ id=>I' l x id) (kf:=kf false) (fun j id next' hj ej=>?_) x.met 0 rfl,xw]
   rw[mn hl hN]
   unfold I'
   by_cases hn:aF l id<0
   ·simp[hn]
   ·rw[decide_eq_false hn,cond_false,Bool.not_false,Bool.true_and]
    cases hf:id==x.1
    ·obtain⟨k,hk,e2,h2,_⟩:=bW (p:=fun x:aB=>x.1==id) hn
     have e3:aF l id=(k:Int):=e2
     obtain⟨q1,q2⟩:=hm l[k] (List.getElem_mem hk)
     rw[cond_false,e3,an hk,cond_true,Int.toNat_natCast,ai _ _ hk,SH m1 m2,SH q1 q2]
     cases hc:(mo x.met id==mo l[k].met x.1)<;>simp[bne,hc]
    ·simp
  have ord:∀ A B:Option aa,(bif (decide ((i:Int)>(0:Int))) then
    bif (aN (IntKind.wrap .i64 ((i:Int) - (1:Int))) (List.length l)) then
     bif (decide (x.1≤(List.getD l (Int.toNat (IntKind.wrap .i64 ((i:Int) - (1:Int)))) au).1)) then A else B
    else none
   else B)=bif (decide (i=0)||decide ((l.getD (i - 1) au).1<x.1)) then B else A:=fun A B=>by
   by_cases h0:i=0
   ·subst h0;simp
   ·rw[decide_eq_true (show(i:Int)>0 by omega),cond_true,oh (by omega) h hl,an (by omega),cond_true,Int.toNat_natCast,decide_eq_false h0,Bool.false_or]
    by_cases hc:(l.getD (i - 1) au).1<x.1
    ·rw[decide_eq_false (by omega),decide_eq_true hc];rfl
    ·rw[decide_eq_true (by omega),decide_eq_false hc];rfl
  simp only[nf,inner,ord]
  unfold jz
  cases gK x.1 1 99<;>simp
  cases (decide (i=0)||decide ((l[i - 1]?.getD au).1<x.1))<;>simp
  cases gK x.2.1 1 99<;>simp
  by_cases Cu:x.met.length≤20
  ·rw[decide_eq_false (show ¬(20:Int)<(x.met.length:Int) by omega),decide_eq_true Cu]
   simp
   cases gK x.2.2.1 0 x.met.length<;>simp
   cases gK x.2.2.2.2.1 0 x.met.length<;>simp
   cases gK x.2.2.2.1 0 100000<;>simp
  ·rw[decide_eq_true (show(20:Int)<(x.met.length:Int) by omega),decide_eq_false Cu]
   simp
theorem NI {l:List aB} {N:Nat} (hw:wf (.sl bj) l) (hN:ah (.sl bj) l<N):∀ x∈l,x.met.length≤maxLen∧x.met.length<N:=fun x hx=>by
 have h1:=bn (t:=bj) hx
 have h2:ah bj x=ah (.sl (.int .i64)) x.2.2.2.2.2:=by simp[ah]
 have h3:=aT (t:=.int .i64) x.2.2.2.2.2
 exact⟨(hw.2 x hx).2.2.2.2.2.1,by show x.2.2.2.2.2.length<N;omega⟩
end Go.Pv.R
namespace Go.Pv
set_option linter.unusedVariables false
set_option linter.unusedSimpArgs false
def j9 {α β:Type} (c:Nat→α→Bool) (f:Nat→α→β):List α→Nat→List β
 |[],_=>[]
 |x::r,i=>bif c i x then f i x::j9 c f r (i+1) else j9 c f r (i+1)
theorem kC {α β:Type} {body:Nat→α→List β→(List β→Option aa)→Option aa} {bD:List β→Option aa} {c:Nat→α→Bool} {f:Nat→α→β} {l:List α}
  (hb:∀ (i:Nat) (x:α) (s:List β) (next:List β→Option aa) (h:i<l.length),l[i]=x→s.length≤i→body i x s next=bif c i x then next (s++[f i x]) else next s):
  ∀ (r:List α) (i:Nat) (s:List β),l.drop i=r→s.length≤i→bR body bD r i s=bD (s++j9 c f r i)
 |[],i,s,_,_=>by simp[bR,j9]
 |x::r,i,s,hd,hs=>by
  have cP:i<l.length:=by have:=congrArg List.length hd;simp at this;omega
  rw[List.drop_eq_getElem_cons cP] at hd
  injection hd with h1 h2
  simp only[bR,j9]
  rw[hb i x s _ cP h1 hs]
  cases c i x
  ·rw[cond_false,cond_false]
   exact kC hb r (i+1) s h2 (by omega)
  ·rw[cond_true,cond_true,kC hb r (i+1) (s++[f i x]) h2 (by simp;omega)]
   simp
theorem HE {α:Type} (p:α→Bool) (l:List α):decide (fA p l≥0)=l.any p:=by
 by_cases h:fA p l<0
 ·rw[decide_eq_false (by omega)]
  symm
  rw[List.any_eq_false]
  intro x hx
  obtain⟨j,hj,rfl⟩:=List.mem_iff_getElem.1 hx
  rw[(AE h).2 j hj]
  simp
 ·rw[decide_eq_true (by omega)]
  symm
  rw[List.any_eq_true]
  obtain⟨k,hk,_,h1,_⟩:=bW h
  exact⟨l[k],List.getElem_mem hk,h1⟩
theorem AF (n:Int):∀ (l:List Int) (i:Nat) (s:Nat),s+l.length≤maxLen→foldI (fun _ x s=>bif x==n then IntKind.wrap .i64 (s+1) else s) l i (s:Int)=((s+l.count n:Nat):Int)
 |[],_,_,_=>by simp[foldI]
 |x::r,i,s,h=>by
  simp only[foldI,List.count_cons]
  simp only[List.length_cons] at h
  have:=aw
  cases hx:x==n with
  |false=>simp only[cond_false];rw[AF n r (i+1) s (by omega)];simp
  |true=>
   simp only[cond_true,if_true]
   rw[wrap64 (by omega) (by omega),show((s:Int)+1)=((s+1:Nat):Int) by omega,AF n r (i+1) (s+1) (by omega)]
   congr 1
   omega
theorem Fm {b:List Int} (hb:b.Nodup):∀ (a:List Int),(∀ x∈a,x∈b)→(b.map fun x=>a.count x).sum=a.length
 |[],_=>by
  have:∀ l:List Int,(l.map fun x=>([]:List Int).count x).sum=0:=by
   intro l
   induction l with
   |nil=>rfl
   |cons x r ih=>rw[List.map_cons,List.sum_cons,ih];simp
  rw[this];rfl
 |y::a,h=>by
  have ih:=Fm hb a (fun x hx=>h x (by simp[hx]))
  have hy:=h y (by simp)
  have key:∀ l:List Int,(l.map fun x=>(y::a).count x).sum=(l.map fun x=>a.count x).sum+l.count y:=by
   intro l
   induction l with
   |nil=>rfl
   |cons x r ihl=>
    rw[List.map_cons,List.sum_cons,ihl,List.map_cons,List.sum_cons,List.count_cons,List.count_cons]
    by_cases hxy:y=x
    ·subst hxy;simp;omega
    ·have h1:(y==x)=false:=by simpa using hxy
     have h2:(x==y)=false:=by simpa using fun e=>hxy e.symm
     rw[h1,h2];simp;omega
  rw[key,ih,List.length_cons]
  have:b.count y=1:=by
   have h1:=List.count_pos_iff.2 hy
   have h2:=List.nodup_iff_count.1 hb y
   omega
  omega
theorem akU {b:List Int} {f:Int→Nat} (h1:∀ x∈b,f x≤1) (h2:(b.map f).sum=b.length):∀ x∈b,f x=1:=by
 have le:∀ l:List Int,(∀ x∈l,f x≤1)→(l.map f).sum≤l.length:=by
  intro l
  induction l with
  |nil=>intro _;simp
  |cons x r ih=>intro h;have:=ih (fun y hy=>h y (by simp[hy]));have:=h x (by simp);simp;omega
 induction b with
 |nil=>intro x hx;cases hx
 |cons y r ih=>
  have hr:=le r (fun x hx=>h1 x (by simp[hx]))
  have hy:=h1 y (by simp)
  simp only[List.map_cons,List.sum_cons,List.length_cons] at h2
  intro x hx
  rcases List.mem_cons.1 hx with rfl |hx
  ·omega
  ·exact ih (fun x hx=>h1 x (by simp[hx])) (by omega) x hx
theorem ae0 {a b:List Int} (hb:b.Nodup) (h:∀ x∈a,x∈b):(∀ x∈b,a.count x=1)↔a.Nodup∧a.length=b.length:=by
 have hs:=Fm hb a h
 constructor
 ·intro h1
  refine⟨List.nodup_iff_count.2 fun x=>?_,?_⟩
  ·by_cases hx:x∈a
   ·rw[h1 x (h x hx)];exact Nat.le_refl _
   ·rw[List.count_eq_zero_of_not_mem hx];omega
  ·have key:∀ l:List Int,(∀ x∈l,a.count x=1)→(l.map fun x=>a.count x).sum=l.length:=by
    intro l
    induction l with
    |nil=>intro _;rfl
    |cons x r ih=>intro h;simp[ih (fun y hy=>h y (by simp[hy])),h x (by simp)];omega
   rw[key b h1] at hs
   exact hs.symm
 ·intro ⟨h1,h2⟩
  exact akU (fun x _=>List.nodup_iff_count.1 h1 x) (by rw[hs,h2])
end Go.Pv
namespace Go.Pv.R
set_option linter.unusedVariables false
set_option linter.unusedSimpArgs false
abbrev aZ:=QJ
abbrev cq:=a7
theorem aaV {l:List Int} {n:Int} (h:l.length≤maxLen):mo l n=(l.count n:Int):=by
 have:=AF n l 0 0 (by omega)
 rw[Nat.zero_add] at this
 exact this
def lz (l:List Int) (n:Int):Bool:=l.any fun x=>x==n
theorem mq {l:List Int} {n:Int}:lz l n=true↔n∈l:=by
 unfold lz
 rw[List.any_eq_true]
 constructor
 ·rintro⟨x,hx,h⟩
  have:x=n:=by simpa using h
  exact this▸hx
 ·intro h;exact⟨n,h,by simp⟩
theorem p9 {N:Nat} {l:List Int} {n:Int} {kf:Bool→Option aa} (hl:l.length≤maxLen) (hN:l.length<N):uZ N l n kf=kf (lz l n):=by
 unfold uZ
 rw[aaz hl hN,je (p:=fun x:Int=>x==n) (kf:=fun _=>kf true) (fun i x next=>rfl)]
 unfold lz
 rw[←HE]
 unfold fA
 cases gJ (fun x:Int=>x==n) l 0
 ·rfl
 ·rw[decide_eq_true (by simp)]
theorem Jb {N:Nat} {l:List Int} {n:Int} {kf:Bool→Option aa} (hl:l.length≤maxLen) (hN:l.length<N):S82 N l n kf=kf (lz l n):=by
 unfold S82 R8
 rw[HC hl hN,je (p:=fun x:Int=>n==x) (kf:=fun i=>kf (decide ((i:Int)≥0))) (fun i x next=>rfl)]
 have e:lz l n=l.any fun x=>n==x:=by
  unfold lz
  congr 1
  funext x
  apply Bool.eq_iff_iff.2
  rw[beq_iff_eq,beq_iff_eq]
  exact⟨fun h=>h.symm,fun h=>h.symm⟩
 rw[e,←HE]
 unfold fA
 cases gJ (fun x:Int=>n==x) l 0<;>rfl
def cB (l:List aZ) (id:Int):Int:=fA (fun x:aZ=>x.1==id) l
theorem WH {N:Nat} {l:List aZ} {id:Int} {kf:Int→Option aa} (hl:l.length≤maxLen) (hN:l.length<N):E7 N l id kf=kf (cB l id):=by
 unfold E7
 rw[aaG hl hN,je (p:=fun x:aZ=>x.1==id) (kf:=fun i=>kf (i:Int)) (fun i x next=>rfl)]
 unfold cB fA
 cases gJ (fun x:aZ=>x.1==id) l 0<;>rfl
theorem auK {N:Nat} {l:List aZ} {id:Int} {kf:Int→Option aa} (hl:l.length≤maxLen) (hN:l.length<N):S80 N l id kf=kf (cB l id):=by
 unfold S80
 rw[aeF hl hN]
 simp only[I81]
 rw[je (p:=fun x:aZ=>x.1==id) (kf:=fun i=>kf (i:Int)) (fun i x next=>rfl)]
 unfold cB fA
 cases gJ (fun x:aZ=>x.1==id) l 0<;>rfl
theorem WI {N:Nat} {l:List aZ} {id:Int} {kf:Int→Option aa} (hl:l.length≤maxLen) (hN:l.length<N):Se N l id kf=kf (cB l id):=by
 unfold Se atQ
 rw[aal hl hN]
 simp only[ajP]
 rw[je (p:=fun x:aZ=>x.1==id) (kf:=fun i=>kf (i:Int)) (fun i x next=>rfl)]
 unfold cB fA
 cases gJ (fun x:aZ=>x.1==id) l 0<;>rfl
def NJ (s:List Int):Bool:=allI (fun i y=>gK y 1 99&&(decide (i=0)||decide (s.getD (i - 1) 0<y))) s 0
def nA (l:List aZ) (i:Nat) (x:aZ):Bool:=gK x.1 1 99&&(gK x.2.1 1 99&&((decide (i=0)||decide ((l.getD (i - 1) b9).1<x.1))&&NJ x.2.2))
def bT (l:List aZ):Bool:=decide (l.length≤10)&&allI (nA l) l 0
theorem SI {α:Type} {l:List α} {i:Nat} {z:α} {g:α→Int} {y:Int} {A B:Option aa} (hi:i<l.length) (hl:l.length≤maxLen):(bif (decide ((i:Int)>(0:Int))) then
    bif (aN (IntKind.wrap .i64 ((i:Int) - (1:Int))) (List.length l)) then
     bif (decide (y≤g (List.getD l (Int.toNat (IntKind.wrap .i64 ((i:Int) - (1:Int)))) z))) then A else B
    else none
   else B)=bif (decide (i=0)||decide (g (l.getD (i - 1) z)<y)) then B else A:=by
 by_cases h0:i=0
 ·subst h0;simp
 ·rw[decide_eq_true (show(i:Int)>0 by omega),cond_true,oh (by omega) hi hl,an (by omega),cond_true,Int.toNat_natCast,decide_eq_false h0,Bool.false_or]
  by_cases hc:g (l.getD (i - 1) z)<y
  ·rw[decide_eq_false (by omega),decide_eq_true hc];rfl
  ·rw[decide_eq_true (by omega),decide_eq_false hc];rfl
theorem WJ {α:Type} {l:List α} {i:Nat} {z:α} {g:α→Int} {y:Int} {A B:Option aa} (hi:i<l.length) (hl:l.length≤maxLen):(bif (decide ((i:Int)>(0:Int))) then
    bif (aN (IntKind.wrap .i64 ((i:Int) - (1:Int))) (List.length l)) then
     bif (decide (g (List.getD l (Int.toNat (IntKind.wrap .i64 ((i:Int) - (1:Int)))) z)≥y)) then A else B
    else none
   else B)=bif (decide (i=0)||decide (g (l.getD (i - 1) z)<y)) then B else A:=SI hi hl
theorem Jc {N:Nat} {l:List aZ} {kf:Bool→Option aa} (hl:l.length≤maxLen) (hm:∀ x∈l,x.2.2.length≤maxLen∧x.2.2.length<N) (hN:l.length<N):Z9 N l kf=kf (bT l):=by
 unfold Z9
 rw[aaB hl hN,fP (l:=l) (p:=nA l) (kf:=kf false) (fun i x next h e=>?_) l 0 rfl]
 ·unfold bT
  cases allI (nA l) l 0
  ·simp
  ·simp only[cond_true,Bool.and_true]
   congr 1
   apply Bool.eq_iff_iff.2
   simp
   omega
 ·have hx:x∈l:=by rw[←e];exact List.getElem_mem h
  obtain⟨m1,m2⟩:=hm x hx
  have inner:gX N l (i:Int) N next kf (0:Int)=bif NJ x.2.2 then next else kf false:=by
   have hg:List.getD l (Int.toNat (i:Int)) b9=x:=by rw[Int.toNat_natCast,ai _ _ h,e]
   rw[aaA (an h) (by rw[hg];exact m1) (by rw[hg];exact m2)]
   simp only[hg]
   rw[fP (l:=x.2.2) (p:=fun i y=>gK y 1 99&&(decide (i=0)||decide (x.2.2.getD (i - 1) 0<y))) (kf:=kf false) (fun j y next' hj ej=>?_) x.2.2 0 rfl]
   ·rfl
   ·rw[lx]
    have:=WJ (l:=x.2.2) (z:=(0:Int)) (g:=fun x=>x) (y:=y) (A:=kf false) (B:=next') hj m1
    rw[this]
    cases gK y 1 99<;>simp
  simp only[lx,inner]
  have ho:=fun A B=>WJ (l:=l) (z:=b9) (g:=fun x=>x.1) (y:=x.1) (A:=A) (B:=B) h hl
  simp only[ho]
  unfold nA
  cases gK x.1 1 99<;>simp
  cases gK x.2.1 1 99<;>simp
  cases (decide (i=0)||decide ((l[i - 1]?.getD b9).1<x.1))<;>simp
theorem SJ {N:Nat} {l:List aZ} {kf:Bool→Option aa} (hl:l.length≤maxLen) (hm:∀ x∈l,x.2.2.length≤maxLen∧x.2.2.length<N) (hN:l.length<N):I79 N l kf=kf (bT l):=by
 unfold I79
 by_cases h10:l.length≤10
 rotate_left
 ·rw[decide_eq_true (by omega),cond_true]
  unfold bT
  rw[decide_eq_false h10]
  rfl
 rw[decide_eq_false (by omega),cond_false]
 rw[aeD hl hN,fP (l:=l) (p:=nA l) (kf:=kf false) (fun i x next h e=>?_) l 0 rfl]
 ·unfold bT
  rw[decide_eq_true h10,Bool.true_and]
  cases allI (nA l) l 0<;>rfl
 ·have hx:x∈l:=by rw[←e];exact List.getElem_mem h
  obtain⟨m1,m2⟩:=hm x hx
  have inner:l9 N l x l (List.length l:Int) (i:Int) x.2.2 (List.length x.2.2:Int) N next kf (0:Int)=bif NJ x.2.2 then next else kf false:=by
   rw[aeC m1 m2]
   rw[fP (l:=x.2.2) (p:=fun i y=>gK y 1 99&&(decide (i=0)||decide (x.2.2.getD (i - 1) 0<y))) (kf:=kf false) (fun j y next' hj ej=>?_) x.2.2 0 rfl]
   ·rfl
   ·rw[nf]
    have:=SI (l:=x.2.2) (z:=(0:Int)) (g:=fun x=>x) (y:=y) (A:=kf false) (B:=next') hj m1
    rw[this]
    cases gK y 1 99<;>simp
  simp only[nf,inner]
  have ho:=fun A B=>SI (l:=l) (z:=b9) (g:=fun x=>x.1) (y:=x.1) (A:=A) (B:=B) h hl
  simp only[ho]
  unfold nA
  cases gK x.1 1 99<;>simp
  cases gK x.2.1 1 99<;>simp
  cases (decide (i=0)||decide ((l[i - 1]?.getD b9).1<x.1))<;>simp
theorem Jd {l:List aZ} {N:Nat} (hw:wf (.sl bS) l) (hN:ah (.sl bS) l<N):∀ x∈l,x.2.2.length≤maxLen∧x.2.2.length<N:=fun x hx=>by
 have h1:=bn (t:=bS) hx
 have h2:ah bS x=ah (.sl (.int .i64)) x.2.2:=by simp[ah]
 have h3:=aT (t:=.int .i64) x.2.2
 exact⟨(hw.2 x hx).2.2.1,by omega⟩
def Fo (l:List aB) (id:Int):Int:=(l.getD (aF l id).toNat au).2.1
def azX (l:List aB) (id:Int):List Int:=(l.getD (aF l id).toNat au).met
def rH (l:List aB) (a b:Int):Bool:=decide (aF l a≥0)&&lz (azX l a) b
def cz (l:List aB) (a b:Int):Bool:=aG l&&(decide (aF l a≥0)&&(decide (aF l b≥0)&&((aF l a != aF l b)&&((Fo l a != Fo l b)&& !rH l a b))))
theorem eV {l:List aB} {id:Int} (h:aF l id≥0):aN (aF l id) l.length=true∧(aF l id).toNat<l.length:=by
 obtain⟨k,hk,e,_⟩:=bW (p:=fun x:aB=>x.1==id) (l:=l) (by unfold aF at h;omega)
 have e:aF l id=(k:Int):=e
 rw[e]
 exact⟨an hk,by simpa using hk⟩
theorem akV {N:Nat} {l:List aB} {a b:Int} {kf:Bool→Option aa} (hl:l.length≤maxLen) (hm:∀ x∈l,x.met.length≤maxLen∧x.met.length<N) (hN:l.length<N):aj5 N l a b kf=kf (rH l a b):=by
 unfold aj5 rH
 rw[jf hl hN]
 by_cases h:aF l a≥0
 ·obtain⟨h1,h2⟩:=eV h
  have hx:l.getD (aF l a).toNat au∈l:=by rw[ai _ _ h2];exact List.getElem_mem h2
  obtain⟨m1,m2⟩:=hm _ hx
  rw[decide_eq_true h,cond_true,h1,cond_true,p9 m1 m2]
  rfl
 ·rw[decide_eq_false h];rfl
theorem auL {N:Nat} {l:List aB} {a b:Int} {kf:Bool→Option aa} (hl:l.length≤maxLen) (hm:∀ x∈l,x.met.length≤maxLen∧x.met.length<N) (hN:l.length<N):I19 N l a b kf=kf (rH l a b):=by
 unfold I19 rH
 rw[mn hl hN]
 by_cases h:aF l a≥0
 ·obtain⟨h1,h2⟩:=eV h
  have hx:l.getD (aF l a).toNat au∈l:=by rw[ai _ _ h2];exact List.getElem_mem h2
  obtain⟨m1,m2⟩:=hm _ hx
  rw[decide_eq_true h,cond_true,h1,cond_true,Jb m1 m2]
  rfl
 ·rw[decide_eq_false h];rfl
theorem WK {N:Nat} {l:List aB} {a b:Int} {kf:Bool→Option aa} (hl:l.length≤maxLen) (hm:∀ x∈l,x.met.length≤maxLen∧x.met.length<N) (hN:l.length<N):Sp N l a b kf=kf (cz l a b):=by
 unfold Sp cz
 rw[jf hl hN,jf hl hN,j8 hl hm hN]
 cases aG l
 ·rfl
 by_cases ha:aF l a≥0
 rotate_left
 ·rw[decide_eq_false ha];rfl
 by_cases hb:aF l b≥0
 rotate_left
 ·rw[decide_eq_true ha,decide_eq_false hb];rfl
 rw[decide_eq_true ha,decide_eq_true hb,(eV ha).1,(eV hb).1,akV hl hm hN]
 simp only[cond_true,Bool.true_and]
 cases aF l a != aF l b
 ·rfl
 unfold Fo
 cases (l.getD (aF l a).toNat au).2.1 != (l.getD (aF l b).toNat au).2.1<;>rfl
theorem ae1 {N:Nat} {l:List aB} {a b:Int} {kf:Bool→Option aa} (hl:l.length≤maxLen) (hm:∀ x∈l,x.met.length≤maxLen∧x.met.length<N) (hN:l.length<N):I77 N l a b kf=kf (cz l a b):=by
 unfold I77 cz
 rw[mn hl hN,mn hl hN,ly hl hm hN]
 cases aG l
 ·rfl
 by_cases ha:aF l a≥0
 rotate_left
 ·rw[decide_eq_false ha];rfl
 by_cases hb:aF l b≥0
 rotate_left
 ·rw[decide_eq_true ha,decide_eq_false hb];rfl
 rw[decide_eq_true ha,decide_eq_true hb,(eV ha).1,(eV hb).1,auL hl hm hN]
 simp only[cond_true,Bool.true_and]
 cases aF l a != aF l b
 ·rfl
 unfold Fo
 cases (l.getD (aF l a).toNat au).2.1 != (l.getD (aF l b).toNat au).2.1<;>rfl
def Fp (t:List aB) (j:aZ) (id:Int):Bool:=decide (aF t id≥0)&&((Fo t id != j.2.1)&& !lz j.2.2 id)
def dx (t:List aB) (j:aZ) (p:cq):Bool:=Fp t j p.1&&Fp t j p.2
theorem WL {N:Nat} {t:List aB} {j:aZ} {p:cq} {kf:Bool→Option aa} (hl:t.length≤maxLen) (hN:t.length<N) (h1:j.2.2.length≤maxLen) (h2:j.2.2.length<N):Z' N t j p kf=kf (dx t j p):=by
 unfold Z' dx Fp
 rw[jf hl hN,jf hl hN]
 by_cases ha:aF t p.1≥0
 rotate_left
 ·rw[decide_eq_false ha];rfl
 by_cases hb:aF t p.2≥0
 rotate_left
 ·rw[decide_eq_true ha,decide_eq_false hb];simp
 rw[decide_eq_true ha,decide_eq_true hb,(eV ha).1,(eV hb).1,p9 h1 h2]
 simp only[p9 h1 h2,cond_true,Bool.true_and]
 unfold Fo
 cases (t.getD (aF t p.1).toNat au).2.1 != j.2.1
 ·rfl
 cases (t.getD (aF t p.2).toNat au).2.1 != j.2.1
 ·simp
 cases lz j.2.2 p.1<;>simp
theorem ae2 {N:Nat} {t:List aB} {j:aZ} {p:cq} {kf:Bool→Option aa} (hl:t.length≤maxLen) (hN:t.length<N) (h1:j.2.2.length≤maxLen) (h2:j.2.2.length<N) (h3:2<N):I83 N t j p kf=kf (dx t j p):=by
 have key:∀ (id:Int) (next:Option aa),(Nb N t id (fun(kr:Int)=>
     bif (decide (kr<(0:Int))) then
      kf false
     else
      bif (aN kr (List.length t)) then
       bif ((List.getD t (Int.toNat kr) au).2.1==j.2.1) then
        kf false
       else
        S82 N j.2.2 id (fun(rz:Bool)=>
         bif rz then
          kf false
         else
          next)
      else none))=bif Fp t j id then next else kf false:=fun id next=>by
  rw[mn hl hN]
  unfold Fp
  by_cases ha:aF t id≥0
  rotate_left
  ·rw[decide_eq_false ha,decide_eq_true (by omega)];rfl
  rw[decide_eq_true ha,decide_eq_false (by omega),(eV ha).1,Jb h1 h2]
  simp only[cond_true,cond_false,Bool.true_and]
  unfold Fo
  cases hc:(t.getD (aF t id).toNat au).2.1==j.2.1
  ·simp only[bne,hc,Bool.not_false,Bool.true_and,cond_false]
   cases lz j.2.2 id<;>rfl
  ·simp only[bne,hc,Bool.not_true,Bool.false_and,cond_false,cond_true]
 unfold I83
 rw[aeG (by rw[aw];simp) (by simpa using h3)]
 simp only[kF,key]
 unfold dx
 cases Fp t j p.1
 ·rfl
 ·simp
  cases Fp t j p.2<;>rfl
end Go.Pv.R
namespace Go.Pv.R
set_option linter.unusedVariables false
set_option linter.unusedSimpArgs false
theorem akW {N:Nat} {l:List aB} {kf:Int→Option aa} (hl:l.length≤maxLen) (hm:∀ x∈l,x.met.length≤maxLen∧x.met.length<N) (hN:l.length<N):aj9 N l kf=kf (bif aG l then foldI (fun _ (x:aB) s=>IntKind.wrap .i64 (s+x.2.2.1)) l 0 0 else 0):=by
 unfold aj9
 rw[aaE hl hN]
 simp only[j8 hl hm hN]
 cases aG l with
 |false=>cases l<;>rfl
 |true=>
  simp only[cond_true]
  rw[Aq (fun _ (x:aB) s=>IntKind.wrap .i64 (s+x.2.2.1)) (fun i x s next h e=>rfl)]
theorem akX {N:Nat} {l:List aB} {kf:Int→Option aa} (hl:l.length≤maxLen) (hm:∀ x∈l,x.met.length≤maxLen∧x.met.length<N) (hN:l.length<N):ajL N l kf=kf (bif aG l then foldI (fun _ (x:aB) s=>IntKind.wrap .i64 (s+x.2.2.1)) l 0 0 else 0):=by
 unfold ajL
 rw[ly hl hm hN]
 cases aG l with
 |false=>rfl
 |true=>
  simp only[cond_true,Bool.not_true,cond_false]
  rw[aak hl hN,Aq (fun _ (x:aB) s=>IntKind.wrap .i64 (s+x.2.2.1)) (fun i x s next h e=>rfl)]
def qa (l:List aB):Int:=bif aG l then foldI (fun _ (x:aB) s=>IntKind.wrap .i64 (s+x.2.2.1)) l 0 0 else 0
abbrev eW:=QB
def b8 (b:eW):Bool:=gK b.1 1 99&&(gK b.2.1 0 100&&(gK b.2.2 0 100&&(b.2.1 != b.2.2)))
theorem Je {N:Nat} {b:eW} {kf:Bool→Option aa}:NA N b kf=kf (b8 b):=by
 unfold NA b8
 simp only[lx]
 cases gK b.1 1 99<;>simp
 cases gK b.2.1 0 100<;>simp
 cases gK b.2.2 0 100<;>simp
theorem Jf {N:Nat} {b:eW} {kf:Bool→Option aa}:Nh N b kf=kf (b8 b):=by
 unfold Nh b8
 simp only[nf]
 cases gK b.1 1 99<;>simp
 cases gK b.2.1 0 100<;>simp
 cases gK b.2.2 0 100<;>simp
def eE (r:List cq):List Int:=r.flatMap fun p=>[p.1,p.2]
def qb (l:List aB):List Int:=l.map fun x=>x.1
def jg (l:List aB) (r:List cq):Bool:=r.all (fun p=>cz l p.1 p.2)&&l.all (fun x=>decide ((eE r).count x.1=1))
theorem aaW (r:List cq):(eE r).length=2*r.length:=by
 induction r with
 |nil=>rfl
 |cons p r ih=>simp only[eE,List.flatMap_cons,List.length_append,List.length_cons,List.length_nil] at*;omega
theorem rI {l:List aB} {a b:Int} (h:cz l a b=true):aG l=true∧a∈qb l∧b∈qb l∧a≠b:=by
 unfold cz at h
 simp only[Bool.and_eq_true,decide_eq_true_eq] at h
 obtain⟨h0,ha,hb,nF,_⟩:=h
 have mem:∀ id:Int,aF l id≥0→id∈qb l:=fun id hid=>by
  obtain⟨k,hk,_,h1,_⟩:=bW (p:=fun x:aB=>x.1==id) (l:=l) (by unfold aF at hid;omega)
  exact List.mem_map.2 ⟨l[k],List.getElem_mem hk,by simpa using h1⟩
 refine⟨h0,mem a ha,mem b hb,fun e=>?_⟩
 subst e
 simp at nF
theorem NK {l:List aB} (h:aG l=true):(qb l).Nodup:=by
 unfold aG at h
 simp only[Bool.and_eq_true] at h
 have hm:=u7 h.2.1
 have key:∀ (n:Nat) (r:List aB),l.drop n=r→(r.map fun x:aB=>x.1).Nodup:=by
  intro n r
  induction r generalizing n with
  |nil=>intro _;exact List.nodup_nil
  |cons x r ih=>
   intro hd
   have cP:n<l.length:=by have:=congrArg List.length hd;simp at this;omega
   rw[List.drop_eq_getElem_cons cP] at hd
   injection hd with h1 h2
   rw[List.map_cons,List.nodup_cons]
   refine⟨fun hx=>?_,ih (n+1) h2⟩
   obtain⟨y,hy,e⟩:=List.mem_map.1 hx
   rw[←h2] at hy
   obtain⟨j,hj,rfl⟩:=List.mem_iff_getElem.1 hy
   rw[List.getElem_drop] at e
   have hj':n+1+j<l.length:=by simp at hj;omega
   have:=hm n (n+1+j) hj' (by omega)
   rw[ai _ _ cP,h1] at this
   omega
 exact key 0 l rfl
theorem auM {N:Nat} {l:List aB} {r:List cq} {kf:Bool→Option aa} (hl:l.length≤maxLen) (hm:∀ x∈l,x.met.length≤maxLen∧x.met.length<N) (hN:l.length<N) (hr:r.length≤1048576) (hrN:2*r.length<N):I17 N l r kf=kf (jg l r):=by
 have hML:=aw
 unfold I17
 rw[aeE (by omega) (by omega)]
 have key:∀ (q:List cq) (i:Nat) (s:List Int) (bD:List Int→Option aa),r.drop i=q→s.length=2*i→bR (fun(i:Nat) (x:a7) (fU:List Int) (next:List Int→Option aa)=>
    I77 N l x.1 x.2 (fun(kr:Bool)=>
     bif (!kr) then
      kf false
     else
      bif (decide ((List.length fU+List.length [x.1,x.2])*1≤4398046511104)) then
       next (fU++[x.1,x.2])
      else none)) bD q i s=bif q.all (fun p=>cz l p.1 p.2) then bD (s++eE q) else kf false:=by
  intro q
  induction q with
  |nil=>intro i s bD _ _;simp[bR,eE]
  |cons p q ih=>
   intro i s bD hd hs
   have cP:i<r.length:=by have:=congrArg List.length hd;simp at this;omega
   rw[List.drop_eq_getElem_cons cP] at hd
   injection hd with h1 h2
   simp only[bR]
   rw[ae1 hl hm hN]
   cases hmm:cz l p.1 p.2 with
   |false=>simp[hmm]
   |true=>
    have iw:decide ((List.length s+List.length [p.1,p.2])*1≤4398046511104)=true:=decide_eq_true (by simp;omega)
    simp only[Bool.not_true,cond_false]
    rw[iw,cond_true,ih (i+1) _ bD h2 (by simp;omega)]
    simp[hmm,eE]
 refine Eq.trans (key r 0 [] _ rfl (by simp)) ?_
 unfold jg
 cases gh:r.all (fun p=>cz l p.1 p.2) with
 |false=>rfl
 |true=>
  have hlen:(eE r).length≤maxLen∧(eE r).length<N:=by rw[aaW];omega
  rw[cond_true,List.nil_append,aaj hl hN,fP (l:=l) (p:=fun _ x=>decide ((eE r).count x.1=1)) (kf:=kf false) (fun i x next h e=>?_) l 0 rfl,xw (p:=fun x:aB=>decide ((eE r).count x.1=1))]
  ·simp only[Bool.true_and]
   cases l.all fun x=>decide ((eE r).count x.1=1)<;>rfl
  ·rw[SH hlen.1 hlen.2,aaV hlen.1]
   by_cases h1:(eE r).count x.1=1
   ·simp[h1]
   ·have:(((eE r).count x.1:Int) != 1)=true:=by rw[bne_iff_ne];omega
    rw[this,decide_eq_false h1]
    rfl
theorem Jg {l:List aB} {r:List cq}:(r.all (fun p=>cz l p.1 p.2)&&(decide (eE r).Nodup&&(aG l&&decide ((eE r).length=l.length))))=jg l r:=by
 unfold jg
 cases gh:r.all (fun p=>cz l p.1 p.2) with
 |false=>rfl
 |true=>
  rw[Bool.true_and,Bool.true_and]
  rw[List.all_eq_true] at gh
  have Gy:∀ x∈eE r,x∈qb l:=fun x hx=>by
   obtain⟨p,hp,hx⟩:=List.mem_flatMap.1 hx
   obtain⟨_,h1,h2,_⟩:=rI (gh p hp)
   simp at hx
   rcases hx with rfl |rfl
   ·exact h1
   ·exact h2
  cases ht:aG l with
  |true=>
   have:=ae0 (NK ht) Gy
   apply Bool.eq_iff_iff.2
   rw[List.all_eq_true,Bool.true_and,Bool.and_eq_true,decide_eq_true_eq,decide_eq_true_eq]
   rw[show(qb l).length=l.length by simp[qb]] at this
   rw[←this]
   constructor
   ·intro h x hx;exact decide_eq_true (h x.1 (List.mem_map.2 ⟨x,hx,rfl⟩))
   ·intro h x hx
    obtain⟨y,hy,rfl⟩:=List.mem_map.1 hx
    simpa using h y hy
  |false=>
   -- then there are no pairs,and there are teams
   cases r with
   |cons p r=>have:=(rI (gh p (by simp))).1;rw[ht] at this;cases this
   |nil=>
    cases l with
    |nil=>simp[aG,allI] at ht
    |cons x l=>simp[eE]
theorem akY {N:Nat} {l:List aB} {r:List cq} {kf:Bool→Option aa} (hl:l.length≤maxLen) (hm:∀ x∈l,x.met.length≤maxLen∧x.met.length<N) (hN:l.length<N) (hr:r.length≤1048576) (hrN:2*r.length<N):aj' N l r kf=kf (jg l r):=by
 have hML:=aw
 unfold aj'
 rw[aaF (by omega) (by omega)]
 have key:∀ (q:List cq) (i:Nat) (s:List Int) (bD:List Int→Option aa),r.drop i=q→s.length=2*i→s.Nodup→bR (fun(i:Nat) (x:a7) (ak:List Int) (next:List Int→Option aa)=>
    Sp N l x.1 x.2 (fun(Ny:Bool)=>
     bif (!Ny) then
      kf false
     else
      uZ N ak x.1 (fun(E6:Bool)=>
       bif E6 then
        kf false
       else
        uZ N ak x.2 (fun(Nz:Bool)=>
         bif Nz then
          kf false
         else
          bif (decide ((List.length ak+List.length [x.1,x.2])*1≤4398046511104)) then
           next (ak++[x.1,x.2])
          else none)))) bD q i s=bif q.all (fun p=>cz l p.1 p.2)&&decide (s++eE q).Nodup then bD (s++eE q) else kf false:=by
  intro q
  induction q with
  |nil=>intro i s bD _ _ Mj;simp[bR,eE,Mj]
  |cons p q ih=>
   intro i s bD hd hs Mj
   have cP:i<r.length:=by have:=congrArg List.length hd;simp at this;omega
   rw[List.drop_eq_getElem_cons cP] at hd
   injection hd with h1 h2
   simp only[bR]
   rw[WK hl hm hN]
   cases hmm:cz l p.1 p.2 with
   |false=>simp[hmm]
   |true=>
    have nF:=(rI hmm).2.2.2
    have Gv:s.length≤maxLen∧s.length<N:=by omega
    have azY:s++eE (p::q)=(s++[p.1,p.2])++eE q:=by simp[eE]
    simp only[Bool.not_true,cond_false]
    rw[p9 Gv.1 Gv.2]
    cases h1':lz s p.1 with
    |true=>
     have nx:=mq.1 h1'
     have: ¬(s++eE (p::q)).Nodup:=fun h=>by
      rw[List.nodup_append] at h
      exact h.2.2 p.1 nx p.1 (by simp[eE]) rfl
     rw[decide_eq_false this]
     simp
    |false=>
     rw[cond_false,p9 Gv.1 Gv.2]
     cases h2':lz s p.2 with
     |true=>
      have nx:=mq.1 h2'
      have: ¬(s++eE (p::q)).Nodup:=fun h=>by
       rw[List.nodup_append] at h
       exact h.2.2 p.2 nx p.2 (by simp[eE]) rfl
      rw[decide_eq_false this]
      simp
     |false=>
      have iw:decide ((List.length s+List.length [p.1,p.2])*1≤4398046511104)=true:=decide_eq_true (by simp;omega)
      have n1:p.1∉s:=fun h=>by rw[mq.2 h] at h1';cases h1'
      have n2:p.2∉s:=fun h=>by rw[mq.2 h] at h2';cases h2'
      have acq:(s++[p.1,p.2]).Nodup:=by
       rw[List.nodup_append]
       refine⟨Mj,?_,?_⟩
       ·rw[List.nodup_cons]
        exact⟨by simpa using nF,by simp⟩
       ·intro a ha b hb e
        subst e
        simp at hb
        rcases hb with rfl |rfl
        ·exact n1 ha
        ·exact n2 ha
      rw[cond_false,iw,cond_true,ih (i+1) _ bD h2 (by simp;omega) acq,azY]
      simp[hmm]
 refine Eq.trans (key r 0 [] _ rfl (by simp) List.nodup_nil) ?_
 rw[←Jg]
 rw[List.nil_append]
 cases r.all (fun p=>cz l p.1 p.2)
 ·rfl
 cases decide (eE r).Nodup
 ·rfl
 simp only[Bool.true_and,cond_true]
 rw[j8 hl hm hN]
 cases aG l
 ·rfl
 simp only[cond_true,Bool.true_and]
 congr 1
 apply Bool.eq_iff_iff.2
 rw[beq_iff_eq,decide_eq_true_eq]
 omega
theorem rJ {l:List aZ} {id:Int} (h:cB l id≥0):aN (cB l id) l.length=true∧(cB l id).toNat<l.length:=by
 obtain⟨k,hk,e,_⟩:=bW (p:=fun x:aZ=>x.1==id) (l:=l) (by unfold cB at h;omega)
 have e:cB l id=(k:Int):=e
 rw[e]
 exact⟨an hk,by simpa using hk⟩
def rK (t:List aB) (l:List aZ) (r:List cq) (ids:List Int) (i:Nat):Bool:=decide (cB l (ids.getD i 0)≥0)&&(!lz (ids.take i) (ids.getD i 0)&&dx t (l.getD (cB l (ids.getD i 0)).toNat b9) (r.getD i cA))
def dH (t:List aB) (l:List aZ) (r:List cq) (ids:List Int):Bool:=decide (ids.length=r.length)&&(bT l&&allI (fun i _=>rK t l r ids i) r 0)
theorem akZ {N:Nat} {t:List aB} {l:List aZ} {r:List cq} {ids:List Int} {kf:Bool→Option aa} (ht:t.length≤maxLen) (htN:t.length<N) (hl:l.length≤maxLen) (hm:∀ x∈l,x.2.2.length≤maxLen∧x.2.2.length<N) (hN:l.length<N)
  (hr:r.length≤maxLen) (hrN:r.length<N):aka N t l r ids kf=kf (dH t l r ids):=by
 unfold aka dH
 by_cases hlen:ids.length=r.length
 rotate_left
 ·have:((ids.length:Int) != (r.length:Int))=true:=by rw[bne_iff_ne];omega
  rw[this,decide_eq_false hlen];rfl
 have:((ids.length:Int) != (r.length:Int))=false:=by rw[hlen];exact bne_self_eq_false _
 rw[this,decide_eq_true hlen,cond_false,Jc hl hm hN]
 cases bT l
 ·rfl
 simp only[Bool.not_true,cond_false,Bool.true_and]
 rw[aaH hr hrN,fP (l:=r) (p:=fun i _=>rK t l r ids i) (kf:=kf false) (fun i x next h e=>?_) r 0 rfl]
 ·cases allI (fun i _=>rK t l r ids i) r 0<;>rfl
 ·have hi:i<ids.length:=by omega
  have auN:(decide ((0:Int)≤(0:Int))&&decide ((0:Int)≤(i:Int))&&decide ((i:Int)≤(List.length ids:Int)))=true:=by simp;omega
  rw[an hi,cond_true,auN]
  simp only[Int.toNat_natCast,cond_true]
  rw[WH hl hN]
  unfold rK
  by_cases hf:cB l (ids.getD i 0)≥0
  rotate_left
  ·rw[decide_eq_false hf,decide_eq_true (by omega)];rfl
  obtain⟨f1,f2⟩:=rJ hf
  have hx:l.getD (cB l (ids.getD i 0)).toNat b9∈l:=by rw[ai _ _ f2];exact List.getElem_mem f2
  obtain⟨m1,m2⟩:=hm _ hx
  rw[decide_eq_true hf,decide_eq_false (by omega),cond_false]
  have htk:(List.drop (Int.toNat 0) (List.take i ids))=ids.take i:=rfl
  rw[htk,p9 (by simp;omega) (by simp;omega),f1]
  cases lz (ids.take i) (ids.getD i 0)
  ·rw[cond_false,cond_true,WL ht htN m1 m2]
   have hrx:r.getD i cA=x:=by rw[ai _ _ h,e]
   rw[hrx]
   cases dx t (l.getD (cB l (ids.getD i 0)).toNat b9) x<;>rfl
  ·rfl
theorem auO {N:Nat} {t:List aB} {l:List aZ} {r:List cq} {ids:List Int} {kf:Bool→Option aa} (ht:t.length≤maxLen) (htN:t.length<N) (hl:l.length≤maxLen) (hm:∀ x∈l,x.2.2.length≤maxLen∧x.2.2.length<N) (hN:l.length<N)
  (hr:r.length≤maxLen) (hrN:r.length<N) (h2N:2<N):I18 N t l r ids kf=kf (dH t l r ids):=by
 unfold I18 dH
 rw[SJ hl hm hN]
 cases bT l
 ·simp
 simp only[Bool.not_true,cond_false,Bool.true_and]
 by_cases hlen:ids.length=r.length
 rotate_left
 ·have:((ids.length:Int) != (r.length:Int))=true:=by rw[bne_iff_ne];omega
  rw[this,decide_eq_false hlen];rfl
 have:((ids.length:Int) != (r.length:Int))=false:=by rw[hlen];exact bne_self_eq_false _
 rw[this,decide_eq_true hlen,cond_false,Bool.true_and]
 have gh:allI (fun i _=>rK t l r ids i) r 0=allI (fun i _=>rK t l r ids i) ids 0:=by
  apply Bool.eq_iff_iff.2
  rw[fx,fx]
  exact⟨fun h j hj=>h j (by omega),fun h j hj=>h j (by omega)⟩
 rw[gh,aeH (by omega) (by omega),fP (l:=ids) (p:=fun i _=>rK t l r ids i) (kf:=kf false) (fun i x next h e=>?_) ids 0 rfl]
 ·cases allI (fun i _=>rK t l r ids i) ids 0<;>rfl
 ·have hi:i<r.length:=by omega
  have auN:(decide ((0:Int)≤(0:Int))&&decide ((0:Int)≤(i:Int))&&decide ((i:Int)≤(List.length ids:Int)))=true:=by simp;omega
  have hid:ids.getD i 0=x:=by rw[ai _ _ h,e]
  rw[auN]
  simp only[Int.toNat_natCast,cond_true]
  rw[auK hl hN]
  unfold rK
  rw[hid]
  by_cases hf:cB l x≥0
  rotate_left
  ·rw[decide_eq_false hf,decide_eq_true (by omega)];rfl
  obtain⟨f1,f2⟩:=rJ hf
  have hx:l.getD (cB l x).toNat b9∈l:=by rw[ai _ _ f2];exact List.getElem_mem f2
  obtain⟨m1,m2⟩:=hm _ hx
  rw[decide_eq_true hf,decide_eq_false (by omega),cond_false]
  have htk:(List.drop (Int.toNat 0) (List.take i ids))=ids.take i:=rfl
  rw[htk,Jb (by simp;omega) (by simp;omega),f1,an hi]
  cases lz (ids.take i) x
  ·rw[cond_false,cond_true,cond_true,ae2 ht htN m1 m2 h2N]
   cases dx t (l.getD (cB l x).toNat b9) (r.getD i cA)<;>rfl
  ·rfl
end Go.Pv.R
namespace Go.Pv.R
set_option linter.unusedVariables false
set_option linter.unusedSimpArgs false
abbrev aO:=QC
structure br (c:aO) (N:Nat):Prop where
 tl:c.1.length≤maxLen
 tm:∀ x:aB,x∈c.1→x.met.length≤maxLen∧x.met.length<N
 tN:c.1.length<N
 jl:c.2.1.length≤maxLen
 jm:∀ x∈c.2.1,x.2.2.length≤maxLen∧x.2.2.length<N
 jN:c.2.1.length<N
 rl:c.2.2.1.length≤1048576
 rN:2*c.2.2.1.length<N
 sl:c.2.2.2.1.length≤1048576
 sN:c.2.2.2.1.length<N
 bl:c.2.2.2.2.1.length≤1048576
 bN:c.2.2.2.2.1.length<N
 ml:c.2.2.2.2.2.1.length≤1048576
 mN:c.2.2.2.2.2.1.length<N
 n8:8<N
 tb:c.1.length≤1048700
 tmb:∀ x:aB,x∈c.1→x.met.length≤1048700
 jb:c.2.1.length≤1048700
 jmb:∀ x:aZ,x∈c.2.1→x.2.2.length≤1048700
theorem u9 (c:aO):ah bY c=ah (.sl bj) c.1+(ah (.sl bS) c.2.1+(ah (.sl aM) c.2.2.1+(ah (.sl (.int .i64)) c.2.2.2.1+(ah (.sl de) c.2.2.2.2.1+ah (.sl df) c.2.2.2.2.2.1)))):=rfl
theorem WM {c:aO} {N:Nat} (hw:wf bY c) (hb:ah bY c≤1048576) (hN:2*ah bY c+8<N):br c N:=by
 have hs:=u9 c
 have h1:=aT (t:=bj) c.1
 have h2:=aT (t:=bS) c.2.1
 have h3:=aT (t:=aM) c.2.2.1
 have h4:=aT (t:=.int .i64) c.2.2.2.1
 have h5:=aT (t:=de) c.2.2.2.2.1
 have h6:=aT (t:=df) c.2.2.2.2.2.1
 have hm:=aw
 exact⟨by omega,NI hw.1 (by omega),by omega,by omega,Jd hw.2.1 (by omega),by omega,by omega,by omega,by omega,by omega,by omega,by omega,by omega,by omega,by omega,by omega,fun x hx=>by
  have q1:=bn (t:=bj) hx
  have q2:ah bj x=ah (.sl (.int .i64)) x.2.2.2.2.2:=by simp[ah]
  have q3:=aT (t:=.int .i64) x.2.2.2.2.2
  show x.2.2.2.2.2.length≤1048700
  omega,by omega,fun x hx=>by
  have q1:=bn (t:=bS) hx
  have q2:ah bS x=ah (.sl (.int .i64)) x.2.2:=by simp[ah]
  have q3:=aT (t:=.int .i64) x.2.2
  omega⟩
def mu (b:eW):Bool:=(decide ((b.1:Int)=0))&&((decide ((b.2.1:Int)=0))&&(decide ((b.2.2:Int)=0)))
def ka (c:aO) (i:Nat) (b:eW):Bool:=mu b||(b8 b&&(b.1==c.2.2.2.1.getD i 0))
def cr (c:aO):Bool:=aG c.1&&(bT c.2.1&&(gY c.2.2.2.2.2.1&&(decide (c.2.2.2.1.length=c.2.2.1.length)&&(decide (c.2.2.2.2.1.length=c.2.2.1.length)&&
 ((decide (c.2.2.1.length=0)||(jg c.1 c.2.2.1&&dH c.1 c.2.1 c.2.2.1 c.2.2.2.1))&&(allI (ka c) c.2.2.2.2.1 0&&(gK c.2.2.2.2.2.2 0 1000&&(qa c.1==c.2.2.2.2.2.2))))))))
theorem ae3 {a b:Nat}:((a:Int) != (b:Int))=!decide (a=b):=by
 apply Bool.eq_iff_iff.2
 simp
 omega
theorem HF {N:Nat} {c:aO} {kf:Bool→Option aa} (h:br c N) (hs:c.2.2.2.1.length=c.2.2.1.length) (hb:c.2.2.2.2.1.length=c.2.2.1.length):IL N c kf=kf (allI (ka c) c.2.2.2.2.1 0&&(gK c.2.2.2.2.2.2 0 1000&&(qa c.1==c.2.2.2.2.2.2))):=by
 have hm:=aw
 have:=h.bl
 unfold IL
 rw[aeI (by omega) h.bN,fP (l:=c.2.2.2.2.1) (p:=ka c) (kf:=kf false) (fun i b next hi e=>?_) c.2.2.2.2.1 0 rfl]
 ·cases allI (ka c) c.2.2.2.2.1 0
  ·rfl
  rw[cond_true,nf]
  cases gK c.2.2.2.2.2.2 0 1000
  ·rfl
  simp only[cond_true,Bool.true_and]
  rw[akX h.tl h.tm h.tN]
  rfl
 ·rw[Jf,an (by omega),cond_true,Int.toNat_natCast]
  unfold ka mu
  cases (decide ((b.1:Int)=0))&&((decide ((b.2.1:Int)=0))&&(decide ((b.2.2:Int)=0)))
  ·simp only[Bool.not_false,cond_true,Bool.false_or]
   cases b8 b
   ·rfl
   ·cases hc:b.1==c.2.2.2.1.getD i 0<;>simp only[bne,hc,Bool.not_true,Bool.not_false,cond_true,cond_false,Bool.and_true,Bool.and_false]
  ·rfl
theorem Fq {N:Nat} {c:aO} {kf:Bool→Option aa} (h:br c N) (hs:c.2.2.2.1.length=c.2.2.1.length) (hb:c.2.2.2.2.1.length=c.2.2.1.length):Dj N c kf=kf (allI (ka c) c.2.2.2.2.1 0):=by
 have hm:=aw
 have:=h.bl
 unfold Dj
 rw[aaI (by omega) h.bN,fP (l:=c.2.2.2.2.1) (p:=ka c) (kf:=kf false) (fun i b next hi e=>?_) c.2.2.2.2.1 0 rfl]
 ·cases allI (ka c) c.2.2.2.2.1 0<;>rfl
 ·rw[Je,an (by omega),cond_true,Int.toNat_natCast]
  unfold ka mu
  cases (decide ((b.1:Int)=0))&&((decide ((b.2.1:Int)=0))&&(decide ((b.2.2:Int)=0)))
  ·simp only[Bool.not_false,cond_true,Bool.false_or]
   cases b8 b
   ·rfl
   ·cases hc:b.1==c.2.2.2.1.getD i 0<;>simp only[bne,hc,Bool.not_true,Bool.not_false,cond_true,cond_false,Bool.and_true,Bool.and_false]
  ·rfl
theorem Fs {N:Nat} {c:aO} {kf:Bool→Option aa} (h:br c N):I39 N c kf=kf (cr c):=by
 have hm:=aw
 have Ma:=h.ml
 have h8:=h.n8
 have hr:=h.rl
 have hrN:=h.rN
 unfold I39 cr
 rw[ly h.tl h.tm h.tN]
 cases aG c.1
 ·rfl
 simp only[Bool.not_true,cond_false,Bool.true_and]
 rw[SJ h.jl h.jm h.jN]
 cases bT c.2.1
 ·rfl
 simp only[Bool.not_true,cond_false,Bool.true_and]
 rw[aeZ (by omega) h.mN (by omega)]
 cases gY c.2.2.2.2.2.1
 ·rfl
 simp only[Bool.not_true,cond_false,Bool.true_and,ae3]
 by_cases hs:c.2.2.2.1.length=c.2.2.1.length
 rotate_left
 ·rw[decide_eq_false hs];rfl
 by_cases hb:c.2.2.2.2.1.length=c.2.2.1.length
 rotate_left
 ·rw[decide_eq_false hb,decide_eq_true hs];rfl
 rw[decide_eq_true hs,decide_eq_true hb]
 simp only[Bool.not_true,cond_false,Bool.true_and]
 unfold I16
 by_cases h0:c.2.2.1.length=0
 ·rw[decide_eq_false (by omega)]
  simp only[cond_false]
  rw[HF h hs hb,decide_eq_true h0]
  rfl
 ·rw[decide_eq_true (by omega)]
  simp only[cond_true]
  rw[auM h.tl h.tm h.tN h.rl h.rN,decide_eq_false h0]
  cases jg c.1 c.2.2.1
  ·rfl
  simp only[Bool.not_true,cond_false,Bool.true_and,Bool.false_or]
  rw[auO h.tl h.tN h.jl h.jm h.jN (by omega) (by omega) (by omega)]
  cases dH c.1 c.2.1 c.2.2.1 c.2.2.2.1
  ·rfl
  simp only[Bool.not_true,cond_false,Bool.true_and]
  exact HF h hs hb
theorem Dl {N:Nat} {c:aO} {kf:Bool→Option aa} (h:br c N):SA N c kf=kf (cr c):=by
 have hm:=aw
 have Ma:=h.ml
 have h8:=h.n8
 have hr:=h.rl
 have hrN:=h.rN
 unfold SA cr
 rw[j8 h.tl h.tm h.tN]
 cases aG c.1
 ·rfl
 simp only[Bool.not_true,cond_false,Bool.true_and]
 rw[Jc h.jl h.jm h.jN]
 cases bT c.2.1
 ·rfl
 simp only[Bool.not_true,cond_false,Bool.true_and]
 rw[WE (by omega) h.mN (by omega)]
 cases gY c.2.2.2.2.2.1
 ·rfl
 simp only[Bool.not_true,cond_false,Bool.true_and,ae3]
 by_cases hs:c.2.2.2.1.length=c.2.2.1.length
 rotate_left
 ·rw[decide_eq_false hs];rfl
 by_cases hb:c.2.2.2.2.1.length=c.2.2.1.length
 rotate_left
 ·rw[decide_eq_false hb,decide_eq_true hs];rfl
 rw[decide_eq_true hs,decide_eq_true hb]
 simp only[Bool.not_true,cond_false,Bool.true_and,lx]
 cases gK c.2.2.2.2.2.2 0 1000
 ·simp
 simp only[Bool.not_true,cond_false,Bool.true_and]
 rw[akW h.tl h.tm h.tN]
 show(bif qa c.1 != c.2.2.2.2.2.2 then kf false else _)=_
 cases ht:qa c.1==c.2.2.2.2.2.2
 ·simp only[bne,ht,Bool.not_false,cond_true,Bool.and_false]
 simp only[bne,ht,Bool.not_true,cond_false,Bool.and_true]
 by_cases h0:c.2.2.1.length=0
 ·rw[decide_eq_false (by omega),cond_false,Fq h hs hb,decide_eq_true h0]
  rfl
 ·rw[decide_eq_true (by omega),cond_true,akY h.tl h.tm h.tN h.rl h.rN,decide_eq_false h0]
  cases jg c.1 c.2.2.1
  ·rfl
  simp only[Bool.not_true,cond_false,Bool.true_and,Bool.false_or]
  rw[akZ h.tl h.tN h.jl h.jm h.jN (by omega) (by omega)]
  cases dH c.1 c.2.1 c.2.2.1 c.2.2.2.1
  ·rfl
  simp only[Bool.not_true,cond_false,Bool.true_and]
  exact Fq h hs hb
def bu (c:aO):List Int:=j9 (fun _ b=>mu b) (fun i _=>(i:Int)) c.2.2.2.2.1 0
theorem ak0 {N:Nat} {c:aO} {kf:List Int→Option aa} (h:br c N):akg N c kf=kf (bu c):=by
 have hm:=aw
 have:=h.bl
 unfold akg
 rw[aaP (by omega) h.bN,kC (l:=c.2.2.2.2.1) (c:=fun _ b=>mu b) (f:=fun i _=>(i:Int)) (fun i b s next hi e hs=>?_) c.2.2.2.2.1 0 [] rfl (by simp),List.nil_append]
 ·rfl
 ·have iw:decide ((List.length s+List.length [(i:Int)])*1≤4398046511104)=true:=decide_eq_true (by simp;omega)
  rw[iw,cond_true]
  rfl
theorem auP {N:Nat} {c:aO} {kf:List Int→Option aa} (h:br c N):I41 N c kf=kf (bu c):=by
 have hm:=aw
 have:=h.bl
 unfold I41
 rw[aeL (by omega) h.bN,kC (l:=c.2.2.2.2.1) (c:=fun _ b=>mu b) (f:=fun i _=>(i:Int)) (fun i b s next hi e hs=>?_) c.2.2.2.2.1 0 [] rfl (by simp),List.nil_append]
 ·rfl
 ·have iw:decide ((List.length s+List.length [(i:Int)])*1≤4398046511104)=true:=decide_eq_true (by simp;omega)
  rw[iw,cond_true]
  rfl
theorem Jh {a b c:Int}:gK a b c=true↔b≤a∧a≤c:=by unfold gK;simp
end Go.Pv.R
namespace Go.Pv
set_option linter.unusedVariables false
set_option linter.unusedSimpArgs false
end Go.Pv
namespace Go.Pv.R
set_option linter.unusedVariables false
set_option linter.unusedSimpArgs false
end Go.Pv.R
namespace Go.Pv.R
set_option linter.unusedVariables false
set_option linter.unusedSimpArgs false
end Go.Pv.R
namespace Go.Pv.R
set_option linter.unusedVariables false
set_option linter.unusedSimpArgs false
theorem Cv {α:Type}:∀ (l:List α) (i:Nat),j9 (fun _ _=>true) (fun _ x=>x) l i=l
 |[],_=>rfl
 |x::r,i=>by simp only[j9,cond_true];rw[Cv r (i+1)]
theorem sW {α:Type} {body:Nat→α→List α→(List α→Option aa)→Option aa} {bD:List α→Option aa} {l:List α}
  (hb:∀ (i:Nat) (x:α) (s:List α) (next:List α→Option aa) (h:i<l.length),l[i]=x→s.length≤i→body i x s next=next (s++[x])):bR body bD l 0 []=bD l:=by
 rw[kC (l:=l) (c:=fun _ _=>true) (f:=fun _ x=>x) (fun i x s next h e hs=>by rw[hb i x s next h e hs];rfl) l 0 [] rfl (by simp),Cv,List.nil_append]
theorem om {α:Type} {l:List α} {b:Bool} {kf:List α→Option aa} (hb:b=true):
  (bif List.isEmpty l then both (kf []) (bif b then kf ([]++l) else none) else bif b then kf ([]++l) else none)=kf l:=by
 subst hb
 cases l with
 |nil=>exact lH _
 |cons x r=>rfl
theorem Dm {N:Nat} {l:List Int} {kf:List Int→Option aa} (hl:l.length≤1048700):ID N l kf=kf l:=by
 exact om (decide_eq_true (by simp only[List.length_nil];omega))
theorem ak1 {N:Nat} {l:List a7} {kf:List a7→Option aa} (hl:l.length≤1048576):ajD N l kf=kf l:=om (decide_eq_true (by simp only[List.length_nil];omega))
theorem ak2 {N:Nat} {l:List QB} {kf:List QB→Option aa} (hl:l.length≤1048576):ajE N l kf=kf l:=om (decide_eq_true (by simp only[List.length_nil];omega))
theorem Ji {N:Nat} {l:List QL} {kf:List QL→Option aa} (hl:l.length≤1048576):ZP N l kf=kf l:=om (decide_eq_true (by simp only[List.length_nil];omega))
theorem qc {N:Nat} {l:List aB} {kf:List aB→Option aa} (hl:l.length≤1048700) (hm:∀ x:aB,x∈l→x.met.length≤1048700) (hN:l.length<N):E4 N l kf=kf l:=by
 have h0:=aw
 unfold E4
 rw[aas (by omega) hN]
 refine sW (l:=l) fun i x s next h e hs=>?_
 have hx:x∈l:=by rw[←e];exact List.getElem_mem h
 have hxm:x.2.2.2.2.2.length≤1048700:=hm x hx
 rw[decide_eq_true (by simp only[List.length_nil];omega),decide_eq_true (by simp only[List.length_cons,List.length_nil];omega)]
 rfl
theorem Jj {N:Nat} {l:List aZ} {kf:List aZ→Option aa} (hl:l.length≤1048700) (hm:∀ x:aZ,x∈l→x.2.2.length≤1048700) (hN:l.length<N):Sm N l kf=kf l:=by
 have h0:=aw
 unfold Sm
 rw[aat (by omega) hN]
 refine sW (l:=l) fun i x s next h e hs=>?_
 have hx:x∈l:=by rw[←e];exact List.getElem_mem h
 have hxm:x.2.2.length≤1048700:=hm x hx
 rw[decide_eq_true (by simp only[List.length_nil];omega),decide_eq_true (by simp only[List.length_cons,List.length_nil];omega)]
 rfl
theorem Jk {N:Nat} {l:List aB} {kf:List aB→Option aa} (hl:l.length≤1048700) (hm:∀ x:aB,x∈l→x.met.length≤1048700) (hN:l.length<N):RZ N l kf=kf l:=by
 have h0:=aw
 unfold RZ
 rw[aae (by omega) hN]
 refine sW (l:=l) fun i x s next h e hs=>?_
 have hx:x∈l:=by rw[←e];exact List.getElem_mem h
 have hxm:x.2.2.2.2.2.length≤1048700:=hm x hx
 rw[Dm hxm,decide_eq_true (by simp only[List.length_cons,List.length_nil];omega)]
 rfl
theorem ak3 {N:Nat} {l:List aZ} {kf:List aZ→Option aa} (hl:l.length≤1048700) (hm:∀ x:aZ,x∈l→x.2.2.length≤1048700) (hN:l.length<N):ajC N l kf=kf l:=by
 have h0:=aw
 unfold ajC
 rw[aaf (by omega) hN]
 refine sW (l:=l) fun i x s next h e hs=>?_
 have hx:x∈l:=by rw[←e];exact List.getElem_mem h
 have hxm:x.2.2.length≤1048700:=hm x hx
 rw[Dm hxm,decide_eq_true (by simp only[List.length_cons,List.length_nil];omega)]
 rfl
theorem rL {N:Nat} {c:aO} {kf:aO→Option aa} (h:br c N):Wx N c kf=kf c:=by
 have h0:=aw
 have h1:=h.rl
 have h2:=h.sl
 have h3:=h.bl
 have h4:=h.ml
 unfold Wx
 rw[qc h.tb h.tmb h.tN,Jj h.jb h.jmb h.jN,decide_eq_true (by simp only[List.length_nil];omega),decide_eq_true (by simp only[List.length_nil];omega),decide_eq_true (by simp only[List.length_nil];omega),decide_eq_true (by simp only[List.length_nil];omega)]
 rfl
theorem nB {N:Nat} {c:aO} {kf:aO→Option aa} (h:br c N):IE N c kf=kf c:=by
 have h0:=aw
 have h2:=h.sl
 unfold IE
 rw[Jk h.tb h.tmb h.tN,ak3 h.jb h.jmb h.jN,ak1 h.rl,Dm (by omega),ak2 h.bl,Ji h.ml]
abbrev rM:=QL
def HG (l:List rM):Int:=(l.getLast?.map fun x=>x.2.2.2).getD 0
theorem ae4 {l:List rM} (h0:l≠[]):HG l=(List.getD l (l.length - 1) tJ).2.2.2:=by
 unfold HG
 rw[List.getLast?_eq_getElem?]
 have h1:l.length - 1<l.length:=by
  cases l with
  |nil=>exact absurd rfl h0
  |cons x r=>simp
 rw[List.getD_eq_getElem?_getD,List.getElem?_eq_getElem h1]
 rfl
theorem NL {l:List rM} {kf:Int→Option aa} (hl:l.length≤maxLen):(bif ((List.length l:Int)==(0:Int)) then kf (0:Int) else
  bif (aN (IntKind.wrap .i64 ((List.length l:Int) - (1:Int))) (List.length l)) then kf (List.getD l (Int.toNat (IntKind.wrap .i64 ((List.length l:Int) - (1:Int)))) tJ).2.2.2 else none)=kf (HG l):=by
 have hm:=aw
 cases l with
 |nil=>rfl
 |cons x r=>
  have e1:((List.length (x::r):Int)==(0:Int))=false:=by simp only[List.length_cons];exact beq_eq_false_iff_ne.2 (by omega)
  rw[wrap64 (n:=(List.length (x::r):Int) - 1) (by omega) (by omega)]
  have e2:(List.length (x::r):Int) - 1=((List.length (x::r) - 1:Nat):Int):=by simp only[List.length_cons];omega
  rw[e1,e2,an (by simp),ae4 (by simp)]
  simp only[cond_true,cond_false,Int.toNat_natCast]
theorem ak4 {N:Nat} {l:List rM} {kf:Int→Option aa} (hl:l.length≤maxLen):at7 N l kf=kf (HG l):=NL hl
theorem ak5 {N:Nat} {l:List rM} {kf:Int→Option aa} (hl:l.length≤maxLen):atK N l kf=kf (HG l):=NL hl
def WN (l:List rM) (cO iF:Int):rM:=((l.length:Int)+1,(cO,(iF,Ct (HG l) ((l.length:Int)+1,(cO,(iF,0))))))
def kN (l:List rM) (cO iF:Int):Bool:=gY (l++[WN l cO iF])
def kO (l:List rM) (cO iF:Int):List rM:=bif kN l cO iF then l++[WN l cO iF] else l
theorem HI {l:List rM} {cO iF:Int} (h:kN l cO iF=true):(kO l cO iF).length≤200:=by
 unfold kO
 rw[h]
 unfold kN gY at h
 simp only[Bool.and_eq_true,decide_eq_true_eq] at h
 exact h.1
theorem ak6 {N:Nat} {l:List rM} {cO iF:Int} {kf:List rM→Bool→Option aa} (hl:l.length≤1048576) (hN:l.length+1<N) (h4:4<N):aj8 N l cO iF kf=kf (kO l cO iF) (kN l cO iF):=by
 have hm:=aw
 unfold aj8
 rw[ak4 (by omega),WC h4,wrap64 (n:=(List.length l:Int)+1) (by omega) (by omega),decide_eq_true (by simp only[List.length_nil];omega)]
 simp only[List.nil_append,cond_true]
 rw[decide_eq_true (by simp only[List.length_cons,List.length_nil];omega),cond_true,WE (by simp only[List.length_append,List.length_cons,List.length_nil];omega) (by simp only[List.length_append,List.length_cons,List.length_nil];omega) h4]
 show(bif (!kN l cO iF) then kf l false else kf (l++[WN l cO iF]) true)=_
 unfold kO
 cases kN l cO iF<;>rfl
theorem ak7 {N:Nat} {l:List rM} {cO iF:Int} {kf:List rM→Bool→Option aa} (hl:l.length≤1048576) (hN:l.length+1<N) (h4:4<N):ajK N l cO iF kf=kf (kO l cO iF) (kN l cO iF):=by
 have hm:=aw
 unfold ajK
 rw[ak5 (by omega),WD h4,wrap64 (n:=(List.length l:Int)+1) (by omega) (by omega),Ji hl,decide_eq_true (by simp only[List.length_cons,List.length_nil];omega),cond_true,aeZ (by simp only[List.length_append,List.length_cons,List.length_nil];omega) (by simp only[List.length_append,List.length_cons,List.length_nil];omega) h4,Ji hl]
 show(bif (!kN l cO iF) then kf l false else kf (l++[WN l cO iF]) true)=_
 unfold kO
 cases kN l cO iF<;>rfl
def qd (c:aO) (l:List rM):aO:=(c.1,(c.2.1,(c.2.2.1,(c.2.2.2.1,(c.2.2.2.2.1,(l,c.2.2.2.2.2.2))))))
def e8 (c out:aO) (cO iF:Int):Bool:=kN c.2.2.2.2.2.1 cO iF&&(cr c&&cr (qd out (kO c.2.2.2.2.2.1 cO iF)))
def gw (c out:aO) (cO iF:Int):aO:=bif e8 c out cO iF then qd out (kO c.2.2.2.2.2.1 cO iF) else c
theorem Ft {c:aO} {N:Nat} {l:List rM} (h:br c N) (hl:l.length≤200) (hN:200<N):br (qd c l) N:=
 ⟨h.tl,h.tm,h.tN,h.jl,h.jm,h.jN,h.rl,h.rN,h.sl,h.sN,h.bl,h.bN,by show l.length≤_;omega,by show l.length<_;omega,h.n8,h.tb,h.tmb,h.jb,h.jmb⟩
theorem va {N:Nat} {c out:aO} {ok:Bool} {cO iF:Int} {kf:aO→Bool→Option aa} (h:br c N) (ho:ok=true→br out N) (hN:200<N) (hl:c.2.2.2.2.2.1.length+1<N):
  S93 N c out ok cO iF kf=bif ok then kf (gw c out cO iF) (e8 c out cO iF) else kf c false:=by
 have h8:=h.n8
 unfold S93
 rw[ak6 h.ml hl (by omega)]
 simp only[rL h,Dl h]
 cases ok with
 |false=>rfl
 |true=>
  unfold gw e8
  cases hw:kN c.2.2.2.2.2.1 cO iF with
  |false=>rfl
  |true=>
   cases hc:cr c with
   |false=>rfl
   |true=>
    have:=Dl (N:=N) (kf:=fun r=>bif !r then kf c false else kf (qd out (kO c.2.2.2.2.2.1 cO iF)) true) (Ft (ho rfl) (HI hw) hN)
    refine this.trans ?_
    simp only[Bool.true_and]
    cases cr (qd out (kO c.2.2.2.2.2.1 cO iF))<;>rfl
theorem sX {N:Nat} {c out:aO} {cO iF:Int} {kf:aO→Bool→Option aa} (h:br c N) (ho:br out N) (he:out.2.2.2.2.2.1=c.2.2.2.2.2.1) (hN:200<N) (hl:c.2.2.2.2.2.1.length+1<N):
  IM N c out cO iF kf=kf (gw c out cO iF) (e8 c out cO iF):=by
 have h8:=h.n8
 unfold IM
 rw[he,ak7 h.ml hl (by omega)]
 simp only[nB h,Fs h]
 unfold gw e8
 cases hw:kN c.2.2.2.2.2.1 cO iF with
 |false=>rfl
 |true=>
  cases hc:cr c with
  |false=>rfl
  |true=>
   have:=Fs (N:=N) (kf:=fun r=>bif !r then kf c false else kf (qd out (kO c.2.2.2.2.2.1 cO iF)) true) (Ft ho (HI hw) hN)
   refine this.trans ?_
   simp only[Bool.true_and]
   cases cr (qd out (kO c.2.2.2.2.2.1 cO iF))<;>rfl
theorem ng {c:aO} (h:cr c=true):c.2.2.2.1.length=c.2.2.1.length∧c.2.2.2.2.1.length=c.2.2.1.length:=by
 unfold cr at h
 simp only[Bool.and_eq_true,decide_eq_true_eq] at h
 exact⟨h.2.2.2.1,h.2.2.2.2.1⟩
def rO (c:aO) (p f s:Int):eW:=(c.2.2.2.1.getD p.toNat 0,(f,s))
def ak8 (c:aO) (l:List eW):aO:=(c.1,(c.2.1,(c.2.2.1,(c.2.2.2.1,(l,c.2.2.2.2.2)))))
def xx (c:aO) (p f s:Int):Bool:=cr c&&((decide (0≤p)&&decide (p<c.2.2.1.length))&&(mu (c.2.2.2.2.1.getD p.toNat fp)&&b8 (rO c p f s)))
def tP (c:aO) (p f s:Int):aO:=ak8 c (c.2.2.2.2.1.set p.toNat (rO c p f s))
theorem NM {c:aO} {N:Nat} (h:br c N) (p f s:Int):br (tP c p f s) N:=
 ⟨h.tl,h.tm,h.tN,h.jl,h.jm,h.jN,h.rl,h.rN,h.sl,h.sN,by show(List.set _ _ _).length≤_;rw[List.length_set];exact h.bl,by show(List.set _ _ _).length<_;rw[List.length_set];exact h.bN,h.ml,h.mN,h.n8,h.tb,h.tmb,h.jb,h.jmb⟩
theorem ak9 {N:Nat} {c:aO} {p f s:Int} {kf:aO→Bool→Option aa} (h:br c N) (hN:200<N) (hl:c.2.2.2.2.2.1.length+1<N):
  akl N c p f s kf=bif xx c p f s then kf (gw c (tP c p f s) 4 (rO c p f s).1) (e8 c (tP c p f s) 4 (rO c p f s).1) else kf c false:=by
 have hm:=aw
 have hr:=h.rl
 unfold akl
 rw[rL h,Dl h]
 unfold xx
 cases hc:cr c with
 |false=>rfl
 |true=>
  obtain⟨l1,l2⟩:=ng hc
  simp only[Bool.not_true,cond_false,Bool.true_and]
  rw[wrap64 (n:=(List.length c.2.2.1:Int) - 1) (by omega) (by omega),lx]
  by_cases hp:0≤p∧p<c.2.2.1.length
  rotate_left
  ·have e1:gK p 0 ((List.length c.2.2.1:Int) - 1)=false:=by
    cases hx:gK p 0 ((List.length c.2.2.1:Int) - 1) with
    |false=>rfl
    |true=>rw[Jh] at hx;exact absurd ⟨hx.1,by omega⟩ hp
   have e2:(decide (0≤p)&&decide (p<c.2.2.1.length))=false:=by
    cases hx:(decide (0≤p)&&decide (p<c.2.2.1.length)) with
    |false=>rfl
    |true=>simp only[Bool.and_eq_true,decide_eq_true_eq] at hx;exact absurd hx hp
   rw[e1,e2]
   rfl
  ·obtain⟨hp0,hp1⟩:=hp
   obtain⟨i,rfl⟩:∃ i:Nat,p=(i:Int):=⟨p.toNat,by omega⟩
   have e1:gK (i:Int) 0 ((List.length c.2.2.1:Int) - 1)=true:=Jh.2 ⟨by omega,by omega⟩
   have e2:(decide (0≤(i:Int))&&decide ((i:Int)<c.2.2.1.length))=true:=by simp only[Bool.and_eq_true,decide_eq_true_eq];omega
   rw[e1,e2]
   simp only[Bool.not_true,cond_false,Bool.true_and,Int.toNat_natCast,List.length_set]
   rw[an (show i<c.2.2.2.2.1.length by omega),an (show i<c.2.2.2.1.length by omega)]
   simp only[cond_true]
   have e3:List.getD (List.set c.2.2.2.2.1 i (List.getD c.2.2.2.1 i (0:Int),(f,s))) i fp=(List.getD c.2.2.2.1 i (0:Int),(f,s)):=by
    rw[List.getD_eq_getElem?_getD,List.getElem?_set_self (by omega)]
    rfl
   rw[e3,Je]
   show(bif !mu (List.getD c.2.2.2.2.1 i fp) then kf c false else _)=_
   cases mu (List.getD c.2.2.2.2.1 i fp) with
   |false=>rfl
   |true=>
    simp only[Bool.not_true,cond_false,Bool.true_and]
    exact va (out:=tP c (i:Int) f s) h (fun _=>NM h _ _ _) hN hl
theorem auQ {N:Nat} {c:aO} {p f s:Int} {kf:aO→Bool→Option aa} (h:br c N) (hN:200<N) (hl:c.2.2.2.2.2.1.length+1<N):
  I35 N c p f s kf=bif xx c p f s then kf (gw c (tP c p f s) 4 (rO c p f s).1) (e8 c (tP c p f s) 4 (rO c p f s).1) else kf c false:=by
 have hm:=aw
 have hr:=h.rl
 unfold I35
 rw[nB h,Fs h]
 unfold xx
 cases hc:cr c with
 |false=>rfl
 |true=>
  obtain⟨l1,l2⟩:=ng hc
  simp only[Bool.not_true,cond_false,Bool.true_and]
  by_cases hp:0≤p∧p<c.2.2.1.length
  rotate_left
  ·have e2:(decide (0≤p)&&decide (p<c.2.2.1.length))=false:=by
    cases hx:(decide (0≤p)&&decide (p<c.2.2.1.length)) with
    |false=>rfl
    |true=>simp only[Bool.and_eq_true,decide_eq_true_eq] at hx;exact absurd hx hp
   rw[e2]
   by_cases h0:p<0
   ·rw[decide_eq_true h0];rfl
   ·rw[decide_eq_false h0,decide_eq_true (show p≥(List.length c.2.2.1:Int) by omega)];rfl
  ·obtain⟨hp0,hp1⟩:=hp
   obtain⟨i,rfl⟩:∃ i:Nat,p=(i:Int):=⟨p.toNat,by omega⟩
   have e2:(decide (0≤(i:Int))&&decide ((i:Int)<c.2.2.1.length))=true:=by simp only[Bool.and_eq_true,decide_eq_true_eq];omega
   rw[decide_eq_false (show ¬(i:Int)<0 by omega),decide_eq_false (show ¬(i:Int)≥(List.length c.2.2.1:Int) by omega),e2]
   simp only[cond_false,Bool.true_and,Int.toNat_natCast]
   rw[an (show i<c.2.2.2.2.1.length by omega),an (show i<c.2.2.2.1.length by omega),Jf]
   simp only[cond_true]
   show(bif !mu (List.getD c.2.2.2.2.1 i fp) then kf c false else _)=_
   cases mu (List.getD c.2.2.2.2.1 i fp) with
   |false=>rfl
   |true=>
    simp only[Bool.not_true,cond_false,Bool.true_and]
    show(bif !b8 (rO c (i:Int) f s) then kf c false else _)=_
    cases b8 (rO c (i:Int) f s) with
    |false=>rfl
    |true=>exact sX (out:=tP c (i:Int) f s) h (NM h _ _ _) rfl hN hl
end Go.Pv.R
namespace Go.Pv
set_option linter.unusedVariables false
set_option linter.unusedSimpArgs false
abbrev Dn (l:List Int):Prop:=l.Pairwise (· < ·)
theorem WO:∀ {a b:List Int},Dn a→Dn b→(∀ x,x∈a↔x∈b)→a=b
 |[],[],_,_,_=>rfl
 |[],y::b,_,_,h=>by have:=(h y).2 (by simp);simp at this
 |x::a,[],_,_,h=>by have:=(h x).1 (by simp);simp at this
 |x::a,y::b,ha,hb,h=>by
  rw[Dn,List.pairwise_cons] at ha hb
  have hxy:x=y:=by
   have h1:=(h x).1 (by simp)
   have h2:=(h y).2 (by simp)
   rcases List.mem_cons.1 h1 with h1 |h1
   ·exact h1
   ·rcases List.mem_cons.1 h2 with h2 |h2
    ·exact h2.symm
    ·have:=hb.1 x h1
     have:=ha.1 y h2
     omega
  subst hxy
  congr 1
  refine WO ha.2 hb.2 fun z=>?_
  constructor
  ·intro hz
   rcases List.mem_cons.1 ((h z).1 (by simp[hz])) with e |e
   ·subst e;have:=ha.1 z hz;omega
   ·exact e
  ·intro hz
   rcases List.mem_cons.1 ((h z).2 (by simp[hz])) with e |e
   ·subst e;have:=hb.1 z hz;omega
   ·exact e
def kP:List Int→Int→List Int
 |[],n=>[n]
 |x::r,n=>bif decide (x<n) then x::kP r n else bif x==n then x::r else n::x::r
theorem xy:∀ (l:List Int) (n x:Int),x∈kP l n↔x=n∨x∈l
 |[],n,x=>by simp[kP]
 |y::r,n,x=>by
  simp only[kP]
  by_cases h:y<n
  ·rw[decide_eq_true h,cond_true,List.mem_cons,xy r n x,List.mem_cons]
   constructor
   ·rintro(h |h |h)<;>simp[h]
   ·rintro(h |h |h)<;>simp[h]
  ·rw[decide_eq_false h,cond_false]
   by_cases e:y=n
   ·subst e;simp
   ·rw[beq_eq_false_iff_ne.2 e,cond_false];simp
theorem rP:∀ {l:List Int} {n:Int},Dn l→Dn (kP l n)
 |[],n,_=>by simp[kP,Dn]
 |y::r,n,h=>by
  rw[Dn,List.pairwise_cons] at h
  simp only[kP]
  by_cases hy:y<n
  ·rw[decide_eq_true hy,cond_true,Dn,List.pairwise_cons]
   refine⟨fun z hz=>?_,rP h.2⟩
   rcases(xy r n z).1 hz with e |e
   ·omega
   ·exact h.1 z e
  ·rw[decide_eq_false hy,cond_false]
   by_cases e:y=n
   ·subst e
    simp only[beq_self_eq_true,cond_true,Dn,List.pairwise_cons]
    exact h
   ·rw[beq_eq_false_iff_ne.2 e,cond_false,Dn,List.pairwise_cons,List.pairwise_cons]
    refine⟨fun z hz=>?_,h⟩
    rcases List.mem_cons.1 hz with e2 |e2
    ·omega
    ·have:=h.1 z e2;omega
theorem xz:∀ (l:List Int) (n:Int),(kP l n).length≤l.length+1
 |[],n=>by simp[kP]
 |y::r,n=>by
  simp only[kP]
  have:=xz r n
  cases decide (y<n) with
  |true=>simp only[cond_true,List.length_cons];omega
  |false=>cases y==n<;>simp
theorem aaX (l:List Int) (x:Int):x∈kV l↔x∈l:=List.mem_mergeSort
theorem ae5 (l:List Int):(kV l).Pairwise (·≤·):=by
 have:=List.pairwise_mergeSort (le:=fun x y:Int=>decide (x≤y)) (fun a b c=>by simp only[decide_eq_true_eq];omega) (fun a b=>by simp only[Bool.or_eq_true,decide_eq_true_eq];omega) l
 exact this.imp fun {a b} h=>by simpa using h
theorem jR:∀ (r:List Int) (x:Int),(x::r).Pairwise (·≤·)→Dn (x::cZ x r)∧∀ z,z∈x::cZ x r↔z∈x::r
 |[],x,_=>by simp[cZ,Dn]
 |y::r,x,h=>by
  rw[List.pairwise_cons] at h
  simp only[cZ]
  by_cases e:y=x
  ·subst e
   simp only[beq_self_eq_true,cond_true]
   obtain⟨h1,h2⟩:=jR r y h.2
   refine⟨h1,fun z=>(h2 z).trans ?_⟩
   simp
  ·rw[beq_eq_false_iff_ne.2 e,cond_false]
   obtain⟨h1,h2⟩:=jR r y h.2
   have cP:x<y:=by have:=h.1 y (by simp);omega
   refine⟨?_,fun z=>?_⟩
   ·rw[Dn,List.pairwise_cons]
    refine⟨fun z hz=>?_,h1⟩
    have h3:Dn (y::cZ y r):=h1
    rw[Dn,List.pairwise_cons] at h3
    rcases List.mem_cons.1 hz with e2 |e2
    ·omega
    ·have:=h3.1 z e2;omega
   ·rw[List.mem_cons,h2 z]
    simp only[List.mem_cons]
theorem GL (l:List Int) (h:l.Pairwise (·≤·)):Dn (dm l)∧∀ z,z∈dm l↔z∈l:=by
 cases l with
 |nil=>simp[dm,Dn]
 |cons x r=>exact jR r x h
end Go.Pv
namespace Go.Pv.R
set_option linter.unusedVariables false
set_option linter.unusedSimpArgs false
def fB:List Int→Int→Nat
 |[],_=>0
 |x::r,n=>bif decide (x<n) then fB r n+1 else 0
theorem WQ:∀ (l:List Int) (n:Int),fB l n≤l.length
 |[],_=>Nat.le_refl _
 |x::r,n=>by
  simp only[fB]
  have:=WQ r n
  cases decide (x<n)<;>simp<;>omega
theorem NN:∀ (l:List Int) (n:Int),kP l n=bif decide (fB l n<l.length)&&(l.getD (fB l n) 0==n) then l else l.take (fB l n)++[n]++l.drop (fB l n)
 |[],n=>rfl
 |x::r,n=>by
  by_cases h:x<n
  ·have hc:fB (x::r) n=fB r n+1:=by simp only[fB];rw[decide_eq_true h];rfl
   have hp:kP (x::r) n=x::kP r n:=by simp only[kP];rw[decide_eq_true h];rfl
   rw[hc,hp,NN r n]
   simp only[List.length_cons,List.getD_cons_succ,List.take_succ_cons,List.drop_succ_cons]
   rw[show decide (fB r n+1<r.length+1)=decide (fB r n<r.length) from decide_eq_decide.2 (by omega)]
   cases (decide (fB r n<r.length)&&(r.getD (fB r n) 0==n))<;>simp
  ·have hc:fB (x::r) n=0:=by simp only[fB];rw[decide_eq_false h];rfl
   have hp:kP (x::r) n=bif x==n then x::r else n::x::r:=by simp only[kP];rw[decide_eq_false h];rfl
   rw[hc,hp]
   simp only[List.length_cons,List.getD_cons_zero,List.take_zero,List.drop_zero]
   rw[decide_eq_true (show 0<r.length+1 by omega),Bool.true_and]
   cases x==n<;>simp
theorem WR {n:Int} {k:Int→Option aa}:∀ (r:List Int) (i m:Nat),i+r.length=m→kF (fun(i:Nat) (x:Int) (next:Option aa)=>bif (decide (x<n)) then next else k (i:Int)) (k (m:Int)) r i=k ((i+fB r n:Nat):Int)
 |[],i,m,h=>by simp only[kF,fB];rw[←h];rfl
 |x::r,i,m,h=>by
  simp only[kF,fB]
  cases decide (x<n) with
  |true=>
   simp only[cond_true]
   rw[WR r (i+1) m (by simp only[List.length_cons] at h;omega)]
   congr 1
   omega
  |false=>simp only[cond_false,Nat.add_zero]
theorem WS {N:Nat} {l:List Int} {n:Int} {kf:List Int→Option aa} (hl:l.length≤1048576) (hN:l.length<N):u5 N l n kf=kf (kP l n):=by
 have hm:=aw
 unfold u5
 rw[aaS (by omega) hN]
 have hc:=WQ l n
 have h2:(decide ((List.length ([]:List Int)+List.length l)*1≤4398046511104))=true:=decide_eq_true (by simp only[List.length_nil];omega)
 have hj:sV l n kf (fB l n:Int)=kf (l.take (fB l n)++[n]++l.drop (fB l n)):=by
  unfold sV
  have d1:(decide ((0:Int)≤(0:Int))&&decide ((0:Int)≤(fB l n:Int))&&decide ((fB l n:Int)≤(List.length l:Int)))=true:=by simp;omega
  have d2:(decide ((0:Int)≤(fB l n:Int))&&decide ((fB l n:Int)≤(List.length l:Int))&&decide ((List.length l:Int)≤(List.length l:Int)))=true:=by simp;omega
  rw[d1,d2]
  have e1:List.drop (Int.toNat 0) (List.take (Int.toNat (fB l n:Int)) l)=l.take (fB l n):=by simp
  have e2:List.drop (Int.toNat (fB l n:Int)) (List.take (Int.toNat (List.length l:Int)) l)=l.drop (fB l n):=by simp
  rw[e1,e2]
  have l1:(l.take (fB l n)).length=fB l n:=by rw[List.length_take];omega
  have l2:(l.drop (fB l n)).length=l.length - fB l n:=List.length_drop
  rw[decide_eq_true (by simp only[List.length_nil];omega),decide_eq_true (by simp only[List.length_append,List.length_cons,List.length_nil];omega),decide_eq_true (by simp only[List.length_append,List.length_cons,List.length_nil];omega)]
  simp only[cond_true,List.nil_append]
 have:=WR (n:=n) (k:=fun(mG:Int)=>
  bif (decide (mG<(List.length l:Int))) then
   bif (aN mG (List.length l)) then
    bif ((List.getD l (Int.toNat mG) (0:Int))==n) then
     bif (decide ((List.length ([]:(List Int))+List.length l)*1≤4398046511104)) then
      kf (([]:(List Int))++l)
     else none
    else
     sV l n kf mG
   else none
  else
   sV l n kf mG) l 0 l.length (by omega)
 refine this.trans ?_
 simp only[Nat.zero_add]
 rw[hj,NN]
 by_cases cP:fB l n<l.length
 ·rw[decide_eq_true (show(fB l n:Int)<(List.length l:Int) by omega),decide_eq_true cP,an cP,Int.toNat_natCast,h2]
  simp only[cond_true,Bool.true_and,List.nil_append]
  cases List.getD l (fB l n) 0==n<;>rfl
 ·rw[decide_eq_false (show ¬(fB l n:Int)<(List.length l:Int) by omega),decide_eq_false cP]
  rfl
theorem ak' {N:Nat} {l:List Int} {kf:List Int→Option aa} (hl:l.length≤1048576):Z0 N l kf=kf (kV l):=by
 unfold Z0
 have:Nat.blt (List.length l) 4611686018427387904=true:=Nat.ble_eq_true_of_le (by omega)
 rw[this]
 rfl
theorem ala {N:Nat} {l:List Int} {kf:List Int→Option aa}:ad4 N l kf=kf (dm l):=rfl
end Go.Pv.R
namespace Go.Pv.R
set_option linter.unusedVariables false
set_option linter.unusedSimpArgs false
theorem oo {α:Type} (l:List α) (k:Nat):List.drop (Int.toNat 0) (List.take k l)=l.take k∧List.drop k (List.take (List.length l) l)=l.drop k:=by simp
def AG (c:aO) (l:List aB):aO:=(l,c.2)
def WT (c:aO) (k:Nat):aO:=AG c (c.1.take k++c.1.drop (k+1))
theorem xA {c:aO} {N:Nat} {l:List aB} (h:br c N) (hl:l.length≤1048700) (hN:l.length<N) (hm:∀ x:aB,x∈l→x.met.length≤1048700∧x.met.length<N):br (AG c l) N:=by
 have h0:=aw
 exact⟨by show l.length≤_;omega,fun x hx=>⟨by have:=(hm x hx).1;omega,(hm x hx).2⟩,hN,h.jl,h.jm,h.jN,h.rl,h.rN,h.sl,h.sN,h.bl,h.bN,h.ml,h.mN,h.n8,hl,fun x hx=>(hm x hx).1,h.jb,h.jmb⟩
theorem NO {c:aO} {N:Nat} (h:br c N) (k:Nat):br (WT c k) N:=by
 have h1:=h.tb
 have h2:=h.tN
 have hl:(c.1.take k++c.1.drop (k+1)).length≤c.1.length:=by rw[List.length_append,List.length_take,List.length_drop];omega
 refine xA h (by omega) (by omega) fun x hx=>?_
 have wV:x∈c.1:=by
  rcases List.mem_append.1 hx with hx |hx
  ·exact List.mem_of_mem_take hx
  ·exact List.mem_of_mem_drop hx
 exact⟨h.tmb x wV,(h.tm x wV).2⟩
def rQ (c:aO) (id:Int):Bool:=decide (0≤aF c.1 id)&&(decide (c.2.2.1.length=0)&&decide ((c.1.getD (aF c.1 id).toNat au).2.2.2.2.2.length=0))
def qe (c:aO) (id:Int):aO:=WT c (aF c.1 id).toNat
theorem alb {N:Nat} {c:aO} {id:Int} {kf:aO→Bool→Option aa} (h:br c N) (hN:200<N) (hl:c.2.2.2.2.2.1.length+1<N):
  akm N c id kf=bif rQ c id then kf (gw c (qe c id) 6 id) (e8 c (qe c id) 6 id) else kf c false:=by
 have hm:=aw
 have htb:=h.tb
 unfold akm
 rw[rL h,jf h.tl h.tN]
 unfold S94 rQ qe
 by_cases hf:aF c.1 id<0
 ·rw[decide_eq_true hf,decide_eq_false (show ¬ 0≤aF c.1 id by omega)]
  rfl
 ·obtain⟨k,hk,he,_⟩:=bW (p:=fun x:aB=>x.1==id) (l:=c.1) hf
  have he':aF c.1 id=(k:Int):=he
  rw[he',decide_eq_false (show ¬(k:Int)<0 by omega),decide_eq_true (show 0≤(k:Int) by omega)]
  simp only[cond_false,Bool.true_and,Int.toNat_natCast]
  by_cases hr:c.2.2.1.length=0
  rotate_left
  ·rw[decide_eq_true (show(List.length c.2.2.1:Int)>0 by omega),decide_eq_false hr]
   rfl
  ·rw[decide_eq_false (show ¬(List.length c.2.2.1:Int)>0 by omega),decide_eq_true hr,an hk]
   simp only[cond_false,cond_true,Bool.true_and]
   by_cases ae6:(c.1.getD k au).2.2.2.2.2.length=0
   rotate_left
   ·rw[decide_eq_true (show(List.length (c.1.getD k au).2.2.2.2.2:Int)>0 by omega),decide_eq_false ae6]
    rfl
   ·rw[decide_eq_false (show ¬(List.length (c.1.getD k au).2.2.2.2.2:Int)>0 by omega),decide_eq_true ae6,wrap64 (n:=(k:Int)+1) (by omega) (by omega)]
    have d1:(decide ((0:Int)≤(0:Int))&&true&&decide ((k:Int)≤(List.length c.1:Int)))=true:=by simp;omega
    have d2:(decide ((0:Int)≤(k:Int)+1)&&decide ((k:Int)+1≤(List.length c.1:Int))&&decide ((List.length c.1:Int)≤(List.length c.1:Int)))=true:=by simp;omega
    have e3:Int.toNat ((k:Int)+1)=k+1:=by omega
    rw[d1,d2,e3,(oo c.1 k).1,(oo c.1 (k+1)).2]
    simp only[cond_true,cond_false]
    have l1:(c.1.take k).length≤c.1.length:=by rw[List.length_take];omega
    have l2:(c.1.drop (k+1)).length≤c.1.length:=by rw[List.length_drop];omega
    rw[qc (by omega) (fun x hx=>h.tmb x (List.mem_of_mem_take hx)) (by have:=h.tN;omega),qc (by omega) (fun x hx=>h.tmb x (List.mem_of_mem_drop hx)) (by have:=h.tN;omega),decide_eq_true (by omega),cond_true]
    exact va (out:=WT c k) h (fun _=>NO h k) hN hl
theorem auR {N:Nat} {c:aO} {id:Int} {kf:aO→Bool→Option aa} (h:br c N) (hN:200<N) (hl:c.2.2.2.2.2.1.length+1<N):
  I38 N c id kf=bif rQ c id then kf (gw c (qe c id) 6 id) (e8 c (qe c id) 6 id) else kf c false:=by
 have hm:=aw
 have htb:=h.tb
 unfold I38
 rw[nB h,mn h.tl h.tN]
 unfold I16 rQ qe
 by_cases hf:aF c.1 id<0
 ·rw[decide_eq_true hf,decide_eq_false (show ¬ 0≤aF c.1 id by omega)]
  rfl
 ·obtain⟨k,hk,he,_⟩:=bW (p:=fun x:aB=>x.1==id) (l:=c.1) hf
  have he':aF c.1 id=(k:Int):=he
  rw[he',decide_eq_false (show ¬(k:Int)<0 by omega),decide_eq_true (show 0≤(k:Int) by omega),Int.toNat_natCast,an hk]
  simp only[cond_false,cond_true,Bool.true_and]
  by_cases ae6:(c.1.getD k au).2.2.2.2.2.length=0
  rotate_left
  ·rw[decide_eq_true (show(List.length (c.1.getD k au).2.2.2.2.2:Int)>0 by omega),decide_eq_false ae6,Bool.and_false]
   rfl
  ·rw[decide_eq_false (show ¬(List.length (c.1.getD k au).2.2.2.2.2:Int)>0 by omega),decide_eq_true ae6]
   by_cases hr:c.2.2.1.length=0
   rotate_left
   ·rw[decide_eq_true (show(List.length c.2.2.1:Int)>0 by omega),decide_eq_false hr]
    rfl
   ·rw[decide_eq_false (show ¬(List.length c.2.2.1:Int)>0 by omega),decide_eq_true hr,wrap64 (n:=(k:Int)+1) (by omega) (by omega)]
    simp only[cond_false,Bool.and_true,cond_true]
    unfold at3
    have d1:(decide ((0:Int)≤(k:Int))&&(decide ((k:Int)≤(k:Int)+1)&&decide ((k:Int)+1≤(List.length c.1:Int))))=true:=by simp;omega
    have e3:Int.toNat ((k:Int)+1)=k+1:=by omega
    rw[d1,e3,Int.toNat_natCast,cond_true]
    exact sX (out:=WT c k) h (NO h k) rfl hN hl
end Go.Pv.R
namespace Go.Pv.R
set_option linter.unusedVariables false
set_option linter.unusedSimpArgs false
end Go.Pv.R
namespace Go.Pv.R
set_option linter.unusedVariables false
set_option linter.unusedSimpArgs false
theorem ae7 {α:Type} {l:List α} {z:α} {g:α→Int} (h:∀ (i:Nat) (hi:i<l.length),0<i→g (l.getD (i - 1) z)<g l[i]):∀ (j i:Nat) (hi:i<l.length),j<i→g (l.getD j z)<g l[i]:=by
 intro j i
 induction i with
 |zero=>intro _ hj;omega
 |succ i ih=>
  intro hi hj
  have h1:=h (i+1) hi (by omega)
  rw[Nat.add_sub_cancel] at h1
  by_cases e:j=i
  ·subst e;exact h1
  ·have h2:=ih (by omega) (by omega)
   rw[ai _ _ (by omega)] at h1
   omega
theorem ae8 {α:Type} {xs:List α} {x z:α} {g:α→Int} {k:Nat} (hk:k≤xs.length) (hm:∀ (j i:Nat) (hi:i<(xs.take k++[x]++xs.drop k).length),j<i→g ((xs.take k++[x]++xs.drop k).getD j z)<g (xs.take k++[x]++xs.drop k)[i]):
  ∀ (i:Nat) (hi:i<xs.length),g xs[i]≠g x:=by
 intro i hi he
 have hl:(xs.take k++[x]++xs.drop k).length=xs.length+1:=by simp only[List.length_append,List.length_take,List.length_drop,List.length_cons,List.length_nil];omega
 have cP:(xs.take k).length=k:=by rw[List.length_take];omega
 have hkx:∀ (h:k<(xs.take k++[x]++xs.drop k).length),(xs.take k++[x]++xs.drop k)[k]=x:=fun h=>by
  rw[List.getElem_append_left (by rw[List.length_append,cP];simp),List.getElem_append_right (by omega)]
  simp[cP]
 by_cases hik:i<k
 ·have h1:=hm i k (by omega) hik
  rw[ai _ _ (by omega),hkx,List.getElem_append_left (by rw[List.length_append,cP];simp;omega),List.getElem_append_left (by omega),List.getElem_take] at h1
  omega
 ·have h1:=hm k (i+1) (by omega) (by omega)
  rw[ai _ _ (by omega),hkx,List.getElem_append_right (by rw[List.length_append,cP];simp;omega),List.getElem_drop] at h1
  have e2:k+(i+1 - (xs.take k++[x]).length)=i:=by rw[List.length_append,cP];simp;omega
  simp only[e2] at h1
  omega
theorem rR {α:Type} {p:α→Bool} {k:Int→Option aa}:∀ (r:List α) (i m:Nat),i+r.length=m→kF (fun(i:Nat) (x:α) (next:Option aa)=>bif p x then next else k (i:Int)) (k (m:Int)) r i=k ((i+(r.takeWhile p).length:Nat):Int)
 |[],i,m,h=>by
  simp only[List.length_nil,Nat.add_zero] at h
  subst h
  rfl
 |x::r,i,m,h=>by
  simp only[List.length_cons] at h
  simp only[kF,List.takeWhile_cons]
  cases hp:p x with
  |false=>rfl
  |true=>
   simp only[cond_true,if_true,List.length_cons]
   rw[rR r (i+1) m (by omega)]
   congr 2
   omega
theorem tQ {α:Type} (p:α→Bool) (l:List α):(l.takeWhile p).length≤l.length:=(List.takeWhile_sublist p).length_le
theorem ay3 {α:Type} {xs:List α} {x:α} {k s:Nat} (hk:k≤xs.length) (hl:xs.length≤1048700) (hs:s≤8):(decide ((0:Int)≤(k:Int))&&(decide ((k:Int)≤(List.length xs:Int))&&(Nat.blt 0 (List.length [x])&&Nat.ble ((List.length xs+List.length [x])*s) 4398046511104)))=true:=by
 have h1:(List.length xs+List.length [x])*s≤1048701*8:=Nat.mul_le_mul (by simp;omega) hs
 rw[decide_eq_true (by omega),decide_eq_true (by omega)]
 simp only[Bool.true_and,Bool.and_eq_true]
 exact⟨rfl,by rw[Nat.ble_eq];omega⟩
def alc (id cJ:Int):aB:=(id,(cJ,(0,(0,(0,[])))))
def qf (l:List aB) (id:Int):Nat:=(l.takeWhile fun x=>decide (x.1<id)).length
def nh (c:aO) (id cJ:Int):aO:=AG c (c.1.take (qf c.1 id)++[alc id cJ]++c.1.drop (qf c.1 id))
theorem Dp (l:List aB) (id:Int):qf l id≤l.length:=tQ _ _
theorem ae9 {α:Type} {xs:List α} {x y:α} {k:Nat} (h:y∈xs.take k++[x]++xs.drop k):y∈xs∨y=x:=by
 rcases List.mem_append.1 h with h |h
 ·rcases List.mem_append.1 h with h |h
  ·exact .inl (List.mem_of_mem_take h)
  ·exact .inr (List.mem_singleton.1 h)
 ·exact .inl (List.mem_of_mem_drop h)
theorem ae' {α:Type} {xs:List α} {x:α} {k:Nat} (hk:k≤xs.length):(xs.take k++[x]++xs.drop k).length=xs.length+1:=by
 simp only[List.length_append,List.length_take,List.length_drop,List.length_cons,List.length_nil];omega
theorem NP {c:aO} {N:Nat} {id cJ:Int} (h:br c N) (hb:c.1.length≤1048576) (hN:c.1.length+1<N):br (nh c id cJ) N:=by
 have hl:=ae' (x:=alc id cJ) (Dp c.1 id)
 have h8:=h.n8
 refine xA h (by omega) (by omega) fun x hx=>?_
 rcases ae9 hx with hx |rfl
 ·exact⟨h.tmb x hx,(h.tm x hx).2⟩
 ·exact⟨by show(0:Nat)≤_;omega,by show(0:Nat)<_;omega⟩
theorem afa {c:aO} {id cJ:Int} (h:aG (nh c id cJ).1=true):aF c.1 id<0:=by
 unfold aG at h
 simp only[Bool.and_eq_true] at h
 have hm:=u7 h.2.1
 have nF:=ae8 (xs:=c.1) (x:=alc id cJ) (z:=au) (g:=fun x:aB=>x.1) (Dp c.1 id) hm
 by_cases hf:aF c.1 id<0
 ·exact hf
 ·obtain⟨k,hk,_,h1,_⟩:=bW (p:=fun x:aB=>x.1==id) (l:=c.1) hf
  exact absurd (beq_iff_eq.1 h1) (nF k hk)
theorem ald {c:aO} {id cJ:Int} (hf: ¬aF c.1 id<0):e8 c (nh c id cJ) 1 id=false:=by
 cases hd:e8 c (nh c id cJ) 1 id with
 |false=>rfl
 |true=>
  unfold e8 cr at hd
  simp only[Bool.and_eq_true] at hd
  exact absurd (afa hd.2.2.1) hf
theorem SK {N:Nat} {c z:aO} {id cJ:Int} {k:Int→Option aa} (h:br c N):nb id cJ c z c N k (0:Int)=k ((qf c.1 id:Nat):Int):=by
 rw[aaT h.tl h.tN,rR c.1 0 c.1.length (by omega),Nat.zero_add]
 rfl
theorem ale {N:Nat} {c:aO} {id cJ:Int} {kf:aO→Bool→Option aa} (h:br c N) (hb:c.1.length≤1048576) (hN1:c.1.length+1<N) (hN:200<N) (hl:c.2.2.2.2.2.1.length+1<N):
  akj N c id cJ kf=bif decide (c.2.2.1.length=0) then kf (gw c (nh c id cJ) 1 id) (e8 c (nh c id cJ) 1 id) else kf c false:=by
 have hm:=aw
 have hk:=Dp c.1 id
 unfold akj
 rw[rL h,SK h]
 show(bif (decide ((0:Int)≤(0:Int))&&decide ((0:Int)≤((qf c.1 id:Nat):Int))&&decide (((qf c.1 id:Nat):Int)≤(List.length c.1:Int))) then _ else _)=_
 have d1:(decide ((0:Int)≤(0:Int))&&decide ((0:Int)≤((qf c.1 id:Nat):Int))&&decide (((qf c.1 id:Nat):Int)≤(List.length c.1:Int)))=true:=by simp;omega
 have d2:(decide ((0:Int)≤((qf c.1 id:Nat):Int))&&decide (((qf c.1 id:Nat):Int)≤(List.length c.1:Int))&&decide ((List.length c.1:Int)≤(List.length c.1:Int)))=true:=by simp;omega
 have l1:(c.1.take (qf c.1 id)).length≤c.1.length:=by rw[List.length_take];omega
 have l2:(c.1.drop (qf c.1 id)).length≤c.1.length:=by rw[List.length_drop];omega
 rw[d1,cond_true,Int.toNat_natCast,(oo c.1 (qf c.1 id)).1,qc (by omega) (fun x hx=>h.tmb x (List.mem_of_mem_take hx)) (by omega),decide_eq_true (by simp only[List.length_cons,List.length_nil];omega),cond_true]
 show(bif (decide ((0:Int)≤((qf c.1 id:Nat):Int))&&decide (((qf c.1 id:Nat):Int)≤(List.length c.1:Int))&&decide ((List.length c.1:Int)≤(List.length c.1:Int))) then _ else _)=_
 rw[d2,cond_true,Int.toNat_natCast]
 show E4 N (List.drop (qf c.1 id) (List.take (List.length c.1) c.1)) _=_
 rw[(oo c.1 (qf c.1 id)).2,qc (by omega) (fun x hx=>h.tmb x (List.mem_of_mem_drop hx)) (by omega),decide_eq_true (by simp only[List.length_append,List.length_cons,List.length_nil];omega),cond_true]
 unfold S94
 refine(va (out:=nh c id cJ) h (fun _=>NP h hb hN1) hN hl).trans ?_
 by_cases hr:c.2.2.1.length=0
 ·rw[decide_eq_true hr,decide_eq_false (show ¬(List.length c.2.2.1:Int)>0 by omega)];rfl
 ·rw[decide_eq_false hr,decide_eq_true (show(List.length c.2.2.1:Int)>0 by omega)];rfl
theorem aaY {N:Nat} {c z:aO} {id cJ:Int} {k:Int→Option aa} (h:br c N):rB id cJ c z c N k (0:Int)=k ((qf c.1 id:Nat):Int):=by
 rw[aeJ h.tl h.tN,rR c.1 0 c.1.length (by omega),Nat.zero_add]
 rfl
theorem auS {N:Nat} {c:aO} {id cJ:Int} {kf:aO→Bool→Option aa} (h:br c N) (hb:c.1.length≤1048576) (hN1:c.1.length+1<N) (hN:200<N) (hl:c.2.2.2.2.2.1.length+1<N):
  I30 N c id cJ kf=bif decide (c.2.2.1.length=0) then kf (gw c (nh c id cJ) 1 id) (e8 c (nh c id cJ) 1 id) else kf c false:=by
 have hm:=aw
 have hk:=Dp c.1 id
 unfold I30
 rw[nB h,mn h.tl h.tN]
 by_cases hf:aF c.1 id<0
 rotate_left
 ·rw[decide_eq_true (show aF c.1 id≥0 by omega),cond_true]
  have hd:=ald (cJ:=cJ) hf
  have hc:gw c (nh c id cJ) 1 id=c:=by unfold gw;rw[hd];rfl
  rw[hd,hc]
  cases decide (c.2.2.1.length=0)<;>rfl
 ·rw[decide_eq_false (show ¬aF c.1 id≥0 by omega),cond_false]
  unfold I16
  by_cases hr:c.2.2.1.length=0
  rotate_left
  ·rw[decide_eq_false hr,decide_eq_true (show(List.length c.2.2.1:Int)>0 by omega)];rfl
  ·rw[decide_eq_true hr,decide_eq_false (show ¬(List.length c.2.2.1:Int)>0 by omega)]
   simp only[cond_false,cond_true]
   rw[aaY h]
   show ajG N c.1 ((qf c.1 id:Nat):Int) [alc id cJ] _=_
   unfold ajG
   rw[ay3 hk (by omega) (by decide),cond_true,Int.toNat_natCast]
   exact sX (out:=nh c id cJ) h (NP h hb hN1) rfl hN hl
def Fu (c:aO) (l:List aZ):aO:=(c.1,(l,c.2.2))
theorem GM {c:aO} {N:Nat} {l:List aZ} (h:br c N) (hl:l.length≤1048700) (hN:l.length<N) (hm:∀ x:aZ,x∈l→x.2.2.length≤1048700∧x.2.2.length<N):br (Fu c l) N:=by
 have h0:=aw
 exact⟨h.tl,h.tm,h.tN,by show l.length≤_;omega,fun x hx=>⟨by have:=(hm x hx).1;omega,(hm x hx).2⟩,hN,h.rl,h.rN,h.sl,h.sN,h.bl,h.bN,h.ml,h.mN,h.n8,h.tb,h.tmb,hl,fun x hx=>(hm x hx).1⟩
def alf (id cJ:Int):aZ:=(id,(cJ,[]))
def qg (l:List aZ) (id:Int):Nat:=(l.takeWhile fun x=>decide (x.1<id)).length
def jS (c:aO) (id cJ:Int):aO:=Fu c (c.2.1.take (qg c.2.1 id)++[alf id cJ]++c.2.1.drop (qg c.2.1 id))
theorem Dq (l:List aZ) (id:Int):qg l id≤l.length:=tQ _ _
theorem HJ {c:aO} {N:Nat} {id cJ:Int} (h:br c N) (hb:c.2.1.length≤1048576) (hN:c.2.1.length+1<N):br (jS c id cJ) N:=by
 have hl:=ae' (x:=alf id cJ) (Dq c.2.1 id)
 have h8:=h.n8
 refine GM h (by omega) (by omega) fun x hx=>?_
 rcases ae9 hx with hx |rfl
 ·exact⟨h.jmb x hx,(h.jm x hx).2⟩
 ·exact⟨by show(0:Nat)≤_;omega,by show(0:Nat)<_;omega⟩
theorem aaZ {c:aO} {id cJ:Int} (h:bT (jS c id cJ).2.1=true):cB c.2.1 id<0:=by
 unfold bT at h
 simp only[Bool.and_eq_true] at h
 have hm:=ae7 (l:=(jS c id cJ).2.1) (z:=b9) (g:=fun x:aZ=>x.1) (fun i hi h0=>by
  have h1:=(fx.1 h.2) i hi
  rw[Nat.zero_add] at h1
  unfold nA at h1
  simp only[Bool.and_eq_true,Bool.or_eq_true,decide_eq_true_eq] at h1
  exact h1.2.2.1.resolve_left (by omega))
 have nF:=ae8 (xs:=c.2.1) (x:=alf id cJ) (z:=b9) (g:=fun x:aZ=>x.1) (Dq c.2.1 id) hm
 by_cases hf:cB c.2.1 id<0
 ·exact hf
 ·obtain⟨k,hk,_,h1,_⟩:=bW (p:=fun x:aZ=>x.1==id) (l:=c.2.1) hf
  exact absurd (beq_iff_eq.1 h1) (nF k hk)
theorem afb {c:aO} {id cJ:Int} (hf: ¬cB c.2.1 id<0):e8 c (jS c id cJ) 2 id=false:=by
 cases hd:e8 c (jS c id cJ) 2 id with
 |false=>rfl
 |true=>
  unfold e8 cr at hd
  simp only[Bool.and_eq_true] at hd
  exact absurd (aaZ hd.2.2.2.1) hf
theorem SL {N:Nat} {c z:aO} {id cJ:Int} {k:Int→Option aa} (h:br c N):nc id cJ c z c N k (0:Int)=k ((qg c.2.1 id:Nat):Int):=by
 rw[aaU h.jl h.jN,rR c.2.1 0 c.2.1.length (by omega),Nat.zero_add]
 rfl
theorem alg {N:Nat} {c:aO} {id cJ:Int} {kf:aO→Bool→Option aa} (h:br c N) (hb:c.2.1.length≤1048576) (hN1:c.2.1.length+1<N) (hN:200<N) (hl:c.2.2.2.2.2.1.length+1<N):
  akk N c id cJ kf=kf (gw c (jS c id cJ) 2 id) (e8 c (jS c id cJ) 2 id):=by
 have hm:=aw
 have hk:=Dq c.2.1 id
 unfold akk
 rw[rL h,SL h]
 show(bif (decide ((0:Int)≤(0:Int))&&decide ((0:Int)≤((qg c.2.1 id:Nat):Int))&&decide (((qg c.2.1 id:Nat):Int)≤(List.length c.2.1:Int))) then _ else _)=_
 have d1:(decide ((0:Int)≤(0:Int))&&decide ((0:Int)≤((qg c.2.1 id:Nat):Int))&&decide (((qg c.2.1 id:Nat):Int)≤(List.length c.2.1:Int)))=true:=by simp;omega
 have d2:(decide ((0:Int)≤((qg c.2.1 id:Nat):Int))&&decide (((qg c.2.1 id:Nat):Int)≤(List.length c.2.1:Int))&&decide ((List.length c.2.1:Int)≤(List.length c.2.1:Int)))=true:=by simp;omega
 have l1:(c.2.1.take (qg c.2.1 id)).length≤c.2.1.length:=by rw[List.length_take];omega
 have l2:(c.2.1.drop (qg c.2.1 id)).length≤c.2.1.length:=by rw[List.length_drop];omega
 rw[d1,cond_true,Int.toNat_natCast,(oo c.2.1 (qg c.2.1 id)).1,Jj (by omega) (fun x hx=>h.jmb x (List.mem_of_mem_take hx)) (by omega),decide_eq_true (by simp only[List.length_cons,List.length_nil];omega),cond_true]
 show(bif (decide ((0:Int)≤((qg c.2.1 id:Nat):Int))&&decide (((qg c.2.1 id:Nat):Int)≤(List.length c.2.1:Int))&&decide ((List.length c.2.1:Int)≤(List.length c.2.1:Int))) then _ else _)=_
 rw[d2,cond_true,Int.toNat_natCast]
 show Sm N (List.drop (qg c.2.1 id) (List.take (List.length c.2.1) c.2.1)) _=_
 rw[(oo c.2.1 (qg c.2.1 id)).2,Jj (by omega) (fun x hx=>h.jmb x (List.mem_of_mem_drop hx)) (by omega),decide_eq_true (by simp only[List.length_append,List.length_cons,List.length_nil];omega),cond_true]
 exact va (out:=jS c id cJ) h (fun _=>HJ h hb hN1) hN hl
theorem aa0 {N:Nat} {c z:aO} {id cJ:Int} {k:Int→Option aa} (h:br c N):rC id cJ c z c N k (0:Int)=k ((qg c.2.1 id:Nat):Int):=by
 rw[aeK h.jl h.jN,rR c.2.1 0 c.2.1.length (by omega),Nat.zero_add]
 rfl
theorem auT {N:Nat} {c:aO} {id cJ:Int} {kf:aO→Bool→Option aa} (h:br c N) (hb:c.2.1.length≤1048576) (hN1:c.2.1.length+1<N) (hN:200<N) (hl:c.2.2.2.2.2.1.length+1<N):
  I32 N c id cJ kf=kf (gw c (jS c id cJ) 2 id) (e8 c (jS c id cJ) 2 id):=by
 have hm:=aw
 have hk:=Dq c.2.1 id
 unfold I32
 rw[nB h,WI h.jl h.jN]
 by_cases hf:cB c.2.1 id<0
 rotate_left
 ·rw[decide_eq_true (show cB c.2.1 id≥0 by omega),cond_true]
  have hd:=afb (cJ:=cJ) hf
  have hc:gw c (jS c id cJ) 2 id=c:=by unfold gw;rw[hd];rfl
  rw[hd,hc]
 ·rw[decide_eq_false (show ¬cB c.2.1 id≥0 by omega),cond_false,aa0 h]
  show ajQ N c.2.1 ((qg c.2.1 id:Nat):Int) [alf id cJ] _=_
  unfold ajQ
  rw[ay3 hk (by omega) (by decide),cond_true,Int.toNat_natCast]
  exact sX (out:=jS c id cJ) h (HJ h hb hN1) rfl hN hl
end Go.Pv.R
namespace Go.Pv.R
set_option linter.unusedVariables false
set_option linter.unusedSimpArgs false
end Go.Pv.R
namespace Go.Pv.R
set_option linter.unusedVariables false
set_option linter.unusedSimpArgs false
end Go.Pv.R
namespace Go.Pv.R
set_option linter.unusedVariables false
set_option linter.unusedSimpArgs false
end Go.Pv.R
namespace Go.Pv.R
set_option linter.unusedVariables false
set_option linter.unusedSimpArgs false
end Go.Pv.R
namespace Go.Pv.R
set_option linter.unusedVariables false
set_option linter.unusedSimpArgs false
theorem Jl {N:Nat} {a b:Int} {kf:Int→Option aa}:ZU N a b kf=kf (bif decide (a<b) then -1 else bif decide (a>b) then 1 else 0):=by
 unfold ZU ajU
 simp only[bne_self_eq_false,cond_false]
 cases decide (a<b)<;>cases decide (a>b)<;>rfl
end Go.Pv.R
namespace Go.Pv.R
set_option linter.unusedVariables false
set_option linter.unusedSimpArgs false
end Go.Pv.R
namespace Go.Pv.R
set_option linter.unusedVariables false
set_option linter.unusedSimpArgs false
end Go.Pv.R
namespace Go.Pv.R
set_option linter.unusedVariables false
set_option linter.unusedSimpArgs false
end Go.Pv.R
namespace Go.Pv.R
set_option linter.unusedVariables false
set_option linter.unusedSimpArgs false
def cV (a b:aB):Bool:=bif a.2.2.1 != b.2.2.1 then decide (a.2.2.1>b.2.2.1) else(bif decide (a.2.2.2.1>b.2.2.2.1) then true else(bif a.2.2.2.1==b.2.2.2.1 then decide (a.1<b.1) else false))
theorem WU {N:Nat} {a b:aB} {kf:Bool→Option aa}:aea N a b kf=kf (cV a b):=by
 unfold aea cV
 cases (a.2.2.1 != b.2.2.1) with
 |true=>rfl
 |false=>
  simp only[cond_false]
  cases decide (a.2.2.2.1>b.2.2.2.1) with
  |true=>rfl
  |false=>
   simp only[cond_false]
   cases (a.2.2.2.1==b.2.2.2.1)<;>rfl
theorem mv {a b:aB}:cV a b=true↔a.2.2.1>b.2.2.1∨(a.2.2.1=b.2.2.1∧(a.2.2.2.1>b.2.2.2.1∨(a.2.2.2.1=b.2.2.2.1∧a.1<b.1))):=by
 unfold cV
 by_cases h1:a.2.2.1=b.2.2.1
 ·have e1:(a.2.2.1 != b.2.2.1)=false:=by simp[h1]
  rw[e1,cond_false]
  by_cases h2:a.2.2.2.1>b.2.2.2.1
  ·rw[decide_eq_true h2];simp[h1,h2]
  ·rw[decide_eq_false h2,cond_false]
   by_cases h3:a.2.2.2.1=b.2.2.2.1
   ·have e3:(a.2.2.2.1==b.2.2.2.1)=true:=by simp[h3]
    rw[e3,cond_true];simp[h1,h3]
   ·have e3:(a.2.2.2.1==b.2.2.2.1)=false:=by simp[h3]
    rw[e3,cond_false];simp[h1,h2,h3]
 ·have e1:(a.2.2.1 != b.2.2.1)=true:=by simp[h1]
  rw[e1,cond_true]
  simp[h1]
def SM (a b:Int):Int:=bif decide (a<b) then -1 else bif decide (a>b) then 1 else 0
theorem alh (a b:Int):SM a b=if a<b then -1 else if a>b then 1 else 0:=by
 unfold SM
 by_cases h1:a<b
 ·rw[decide_eq_true h1,if_pos h1];rfl
 ·rw[decide_eq_false h1,if_neg h1]
  by_cases h2:a>b
  ·rw[decide_eq_true h2,if_pos h2];rfl
  ·rw[decide_eq_false h2,if_neg h2];rfl
theorem ali {N:Nat} {a b c:Int} {kf:Int→Option aa} (hN:3<N):ajV N [a,b,c] kf=kf (if a≠0 then a else if b≠0 then b else c):=by
 unfold ajV
 rw[aam (by rw[aw];simp) (by simpa using hN)]
 simp only[kF]
 by_cases h1:a=0
 ·subst h1
  have e1:(((0:Int) != (0:Int)))=false:=by simp
  rw[e1,cond_false]
  by_cases h2:b=0
  ·subst h2
   rw[e1,cond_false]
   by_cases h3:c=0
   ·subst h3;rw[e1,cond_false];simp
   ·have e3:(c != 0)=true:=by simp[h3]
    rw[e3,cond_true];simp
  ·have e2:(b != 0)=true:=by simp[h2]
   rw[e2,cond_true];simp[h2]
 ·have e2:(a != 0)=true:=by simp[h1]
  rw[e2,cond_true];simp[h1]
def auU (a b:aB):Int:=if SM b.2.2.1 a.2.2.1≠0 then SM b.2.2.1 a.2.2.1 else if SM b.2.2.2.1 a.2.2.2.1≠0 then SM b.2.2.2.1 a.2.2.2.1 else SM a.1 b.1
theorem alj {N:Nat} {a b:aB} {kf:Int→Option aa} (hN:3<N):ajW N a b kf=kf (auU a b):=by
 unfold ajW
 rw[Jl,Jl,Jl,ali hN]
 rfl
theorem NQ (a b:aB):decide (auU a b<0)=cV a b:=by
 rw[Bool.eq_iff_iff,mv,decide_eq_true_eq]
 unfold auU
 simp only[alh]
 rcases Int.lt_trichotomy a.2.2.1 b.2.2.1 with h1 |h1 |h1
 ·have: ¬b.2.2.1<a.2.2.1:=by omega
  simp only[this,if_false,if_pos (show b.2.2.1>a.2.2.1 from h1)]
  simp;omega
 ·simp only[h1,Int.lt_irrefl,if_false,gt_iff_lt,ne_eq,not_true_eq_false]
  rcases Int.lt_trichotomy a.2.2.2.1 b.2.2.2.1 with h2 |h2 |h2
  ·have: ¬b.2.2.2.1<a.2.2.2.1:=by omega
   simp only[this,if_false,if_pos h2]
   simp;omega
  ·simp only[h2,Int.lt_irrefl,if_false,ne_eq,not_true_eq_false]
   by_cases h3:a.1<b.1
   ·simp[h3]
   ·simp only[h3,if_false]
    by_cases h4:b.1<a.1
    ·simp[h4]
    ·simp[h4]
  ·simp only[if_pos h2]
   simp[h2]
 ·simp only[if_pos (show b.2.2.1<a.2.2.1 from h1)]
  simp[h1]
def mw (x:aB) (s:List aB):Nat→Nat
 |0=>0
 |k+1=>bif cV x (s.getD k au) then mw x s k else k+1
theorem Dr (x:aB) (s:List aB):∀ k,mw x s k≤k
 |0=>Nat.le_refl _
 |k+1=>by
  unfold mw
  cases cV x (s.getD k au) with
  |true=>exact Nat.le_succ_of_le (Dr x s k)
  |false=>exact Nat.le_refl _
def rS (s:List aB) (x:aB):List aB:=s.take (mw x s s.length)++[x]++s.drop (mw x s s.length)
theorem xB (s:List aB) (x:aB):(rS s x).length=s.length+1:=by
 have:=Dr x s s.length
 simp[rS];omega
def my (l:List aB):List aB:=l.foldl rS []
theorem NR:∀ (l s:List aB),(l.foldl rS s).length=s.length+l.length
 |[],s=>by simp
 |x::l,s=>by simp only[List.foldl_cons,NR l,xB,List.length_cons];omega
theorem sY (l:List aB):(my l).length=l.length:=by simp[my,NR]
def mA (l:List aB):List Int:=bif aG l then(my l).map (fun x:aB=>x.1) else []
theorem Fv {N:Nat} {l s:List aB} {i:Nat} (hi:i<l.length) (hl:l.length≤1048700) (hs:s.length≤1048700) {kk:Int→Option aa}:∀ (k n:Nat),k≤s.length→k<n→pJ N l s (i:Int) n kk (k:Int)=kk ((mw l[i] s k:Nat):Int)
 |0,n+1,_,_=>by
  simp only[pJ]
  rfl
 |k+1,n+1,hk,hn=>by
  have hm:=aw
  have ew:IntKind.wrap .i64 (((k+1:Nat):Int) - 1)=((k:Nat):Int):=by
   have:=oh (i:=k+1) (m:=s.length+1) (by omega) (by omega) (by omega)
   simpa using this
  simp only[pJ]
  rw[decide_eq_true (show((k+1:Nat):Int)>0 by omega),cond_true,an hi,cond_true,ew,an (show k<s.length by omega),cond_true,WU,Int.toNat_natCast,Int.toNat_natCast,ai l i hi]
  unfold mw
  cases cV l[i] (s.getD k au) with
  |true=>simp only[cond_true];exact Fv hi hl hs k n (by omega) (by omega)
  |false=>rfl
theorem Fw {α σ:Type} {body:Nat→α→σ→(σ→Option aa)→Option aa} {bD:σ→Option aa} {g:σ→α→σ} {Inv:Nat→σ→Prop} {l:List α}
  (hb:∀ (i:Nat) (s:σ) (next:σ→Option aa) (h:i<l.length),Inv i s→body i l[i] s next=next (g s l[i])∧Inv (i+1) (g s l[i])):∀ (r:List α) (i:Nat) (s:σ),l.drop i=r→Inv i s→bR body bD r i s=bD (r.foldl g s)
 |[],i,s,_,_=>rfl
 |x::r,i,s,hd,hs=>by
  have cP:i<l.length:=by have:=congrArg List.length hd;simp at this;omega
  rw[List.drop_eq_getElem_cons cP] at hd
  injection hd with h1 h2
  subst h1
  obtain⟨e1,e2⟩:=hb i s (fun s'=>bR body bD r (i+1) s') cP hs
  simp only[bR,List.foldl_cons]
  rw[e1]
  exact Fw hb r (i+1) _ h2 e2
theorem NS {l:List aB} {kf:List Int→Option aa} (hl:l.length≤1048700):bR (fun(i:Nat) (x:QT) (s:(List Int)) (next:(List Int)→Option aa)=>
    bif (decide ((List.length s+List.length [x.1])*1≤4398046511104)) then
     next (s++[x.1])
    else none) (fun(s:(List Int))=>kf s) l 0 []=kf (l.map fun x:aB=>x.1):=by
 rw[Fw (l:=l) (g:=fun s (x:aB)=>s++[x.1]) (Inv:=fun i s=>s.length=i) (fun i s next h hs=>⟨by rw[decide_eq_true (by simp only[List.length_cons,List.length_nil];omega),cond_true],by simp[hs]⟩) l 0 [] rfl rfl]
 congr 1
 have:∀ (r:List aB) (s:List Int),r.foldl (fun s (x:aB)=>s++[x.1]) s=s++r.map fun x:aB=>x.1:=by
  intro r
  induction r with
  |nil=>intro s;simp
  |cons x r ih=>intro s;simp[ih]
 simpa using this l []
theorem alk {N:Nat} {l:List aB} {kf:List Int→Option aa} (hl:l.length≤maxLen) (hm:∀ x∈l,x.met.length≤maxLen∧x.met.length<N) (hN:l.length+1<N):aj4 N l kf=kf (mA l):=by
 have hx:=aw
 unfold aj4 mA
 rw[aay hl (by omega)]
 have ha:∀ kf,tu N l kf=kf (aG l):=fun kf=>j8 hl hm (by omega)
 cases dt:aG l with
 |false=>
  have key:∀ (l2:List aB) (body:Nat→aB→List aB→(List aB→Option aa)→Option aa) (bD:List aB→Option aa),(∀ i x s next,body i x s next=bD s)→bR body bD l2 0 []=bD []:=by
   intro l2 body bD h
   cases l2 with
   |nil=>rfl
   |cons x r=>simp only[bR];exact h _ _ _ _
  rw[key _ _ _ (fun i x s next=>by rw[ha,dt];rfl)]
  rw[Fg (by simp) (by simp;omega)]
  rfl
 |true=>
  have h10:l.length≤10:=by
   unfold aG at dt
   simp only[Bool.and_eq_true,decide_eq_true_eq] at dt
   exact dt.1
  rw[Fw (l:=l) (g:=rS) (Inv:=fun i s=>s.length=i∧i≤l.length) (fun i s next h hs=>⟨by
   obtain⟨h1,h2⟩:=hs
   have hp:=Dr l[i] s s.length
   rw[ha,dt]
   simp only[cond_true]
   rw[Fv h (by omega) (by omega) s.length N (Nat.le_refl _) (by omega)]
   have d1:(decide ((0:Int)≤(0:Int))&&decide ((0:Int)≤((mw l[i] s s.length:Nat):Int))&&decide (((mw l[i] s s.length:Nat):Int)≤(List.length s:Int)))=true:=by simp;omega
   have d2:(decide ((0:Int)≤((mw l[i] s s.length:Nat):Int))&&decide (((mw l[i] s s.length:Nat):Int)≤(List.length s:Int))&&decide ((List.length s:Int)≤(List.length s:Int)))=true:=by simp;omega
   rw[d1,cond_true,d2,cond_true,Int.toNat_natCast,Int.toNat_natCast,List.drop_zero,List.take_length,List.nil_append]
   have l1:(s.take (mw l[i] s s.length)).length≤s.length:=by rw[List.length_take];omega
   have l2:(s.drop (mw l[i] s s.length)).length≤s.length:=by rw[List.length_drop];omega
   rw[decide_eq_true (by simp only[List.length_nil];omega),cond_true,decide_eq_true (by simp only[List.length_cons,List.length_nil];omega),cond_true,decide_eq_true (by simp only[List.length_append,List.length_cons,List.length_nil];omega),cond_true]
   rfl,by rw[xB];omega,h⟩) l 0 [] rfl ⟨rfl,by omega⟩]
  have hlen:=sY l
  show ky (my l) N kf [] 0=_
  rw[Fg (by omega) (by omega)]
  exact NS (by omega)
theorem alm {α:Type} (P Q:List α) (y x:α) (z:α):List.set (List.set (P++(y::x::Q)) (P.length+1) y) P.length x=P++(x::y::Q):=by
 rw[List.set_append_right _ _ (by omega),List.set_append_right _ _ (by omega)]
 simp
def qF (s:List aB) (x:aB) (rest:List aB) (k:Nat):List aB:=s.take k++(x::(s.drop k++rest))
theorem afc {s rest:List aB} {x:aB} {k:Nat} (hk:k≤s.length):(qF s x rest k).length=s.length+1+rest.length:=by simp[qF];omega
theorem Fx {N:Nat} {s rest:List aB} {x:aB} {b i:Int} {kk:List aB→Option aa} (hN:3<N) (hl:s.length+rest.length≤1048700):∀ (k n:Nat),k≤s.length→k<n→
  sC N (0:Int) b i n kk (qF s x rest k) (k:Int)=kk (qF s x rest (mw x s k))
 |0,n+1,_,_=>by
  simp only[sC]
  rfl
 |k+1,n+1,hk,hn=>by
  have hm:=aw
  have ew:IntKind.wrap .i64 (((k+1:Nat):Int) - 1)=((k:Nat):Int):=by
   have:=oh (i:=k+1) (m:=s.length+1) (by omega) (by omega) (by omega)
   simpa using this
  have hlen:=afc (x:=x) (rest:=rest) hk
  have e1:s.take (k+1)=s.take k++[s[k]]:=by rw[List.take_succ_eq_append_getElem (by omega)]
  have e2:s.drop k=s[k]::s.drop (k+1):=by rw[List.drop_eq_getElem_cons (by omega)]
  have hP:(s.take k).length=k:=by rw[List.length_take];omega
  have em:qF s x rest (k+1)=s.take k++(s[k]::x::(s.drop (k+1)++rest)):=by unfold qF;rw[e1,List.append_assoc];rfl
  have en:qF s x rest k=s.take k++(x::s[k]::(s.drop (k+1)++rest)):=by unfold qF;rw[e2];rfl
  have g1:(qF s x rest (k+1)).getD (k+1) au=x:=by rw[em,List.getD_eq_getElem?_getD,List.getElem?_append_right (by omega),hP];simp
  have g0:(qF s x rest (k+1)).getD k au=s[k]:=by rw[em,List.getD_eq_getElem?_getD,List.getElem?_append_right (by omega),hP];simp
  simp only[sC]
  rw[decide_eq_true (show((k+1:Nat):Int)>0 by omega),cond_true,an (show k+1<(qF s x rest (k+1)).length by omega),cond_true,ew,an (show k<(qF s x rest (k+1)).length by omega),cond_true,Int.toNat_natCast,Int.toNat_natCast,g1,g0,alj hN,NQ]
  have eb:cV x (s.getD k au)=cV x s[k]:=by rw[ai s k (by omega)]
  unfold mw
  rw[eb]
  cases cV x s[k] with
  |true=>
   simp only[cond_true,share]
   rw[an (show k<_ by rw[List.length_set];omega),cond_true]
   have es:List.set (List.set (qF s x rest (k+1)) (k+1) s[k]) k x=qF s x rest k:=by
    rw[em,en]
    have:=alm (s.take k) (s.drop (k+1)++rest) s[k] x x
    rw[hP] at this
    exact this
   rw[es]
   exact Fx hN hl k n (by omega) (by omega)
  |false=>rfl
theorem Fy {N:Nat} {l:List aB} {kk:List aB→Option aa} (hN:3<N) (hl:l.length≤1048700) (hlN:l.length<N):∀ (r s:List aB) (n:Nat),s.length+r.length=l.length→r.length<n→
  pz N (0:Int) (l.length:Int) n kk (s++r) (s.length:Int)=kk (r.foldl rS s)
 |[],s,n+1,hs,_=>by
  simp only[pz]
  rw[decide_eq_false (show ¬(s.length:Int)<(l.length:Int) by simp at hs;omega)]
  simp
 |x::r,s,n+1,hs,hn=>by
  have hm:=aw
  simp only[List.length_cons] at hs hn
  simp only[pz]
  rw[decide_eq_true (show(s.length:Int)<(l.length:Int) by omega),cond_true]
  have e0:s++x::r=qF s x r s.length:=by simp[qF]
  rw[e0,Fx hN (by omega) s.length N (Nat.le_refl _) (by omega)]
  have e1:qF s x r (mw x s s.length)=rS s x++r:=by simp[qF,rS]
  have e2:IntKind.wrap .i64 ((s.length:Int)+1)=((rS s x).length:Int):=by
   rw[xB]
   exact fG (i:=s.length) (m:=l.length) (by omega) (by omega)
  rw[e1,e2,Fy hN hl hlN r (rS s x) n (by rw[xB];omega) (by omega)]
  rfl
theorem NT {N:Nat} {n:Nat} {kf:Int→Option aa} (h:n<256):∃ r,ajT N (n:Int) kf=kf r:=by
 unfold ajT atV
 rw[decide_eq_false (by omega),cond_false]
 unfold IQ
 rw[decide_eq_false (by omega),cond_false]
 unfold IP
 rw[decide_eq_false (by omega),cond_false]
 unfold IN
 have e:IntKind.wrap .u8 (n:Int)=(n:Int):=by simp[IntKind.wrap,IntKind.bits,IntKind.signed];omega
 rw[e,an (m:=ByteArray.size _) (by
  have:ByteArray.size aQ=256:=by decide+kernel
  rw[this];exact h),cond_true]
 exact⟨_,rfl⟩
end Go.Pv.R
namespace Go.Pv.R
set_option linter.unusedVariables false
set_option linter.unusedSimpArgs false
theorem vd {N:Nat} {l:List aB} {kf:List aB→Option aa} (hl:l.length≤12) (hN:20<N):ajY N l kf=kf (my l):=by
 have hm:=aw
 unfold ajY
 have ew:IntKind.wrap .u64 (List.length l:Int)=(l.length:Int):=by simp[IntKind.wrap,IntKind.bits,IntKind.signed];omega
 rw[ew]
 obtain⟨r,hr⟩:=NT (N:=N) (n:=l.length) (kf:=fun(cH:Int)=>ajX N l (0:Int) (List.length l:Int) cH kf) (by omega)
 rw[hr]
 unfold ajX
 obtain⟨n,rfl⟩:∃ n,N=n+1:=⟨N - 1,by omega⟩
 simp only[IT]
 rw[wrap64 (n:=(List.length l:Int) - 0) (by omega) (by omega),decide_eq_true (by omega),cond_true]
 unfold atX
 cases l with
 |nil=>
  have e:IntKind.wrap .i64 ((0:Int)+1)=1:=by decide
  rw[e]
  simp only[pz]
  rfl
 |cons x r=>
  have e:IntKind.wrap .i64 ((0:Int)+1)=(([x]:List aB).length:Int):=by
   show IntKind.wrap .i64 ((0:Int)+1)=((1:Nat):Int)
   decide
  rw[e]
  have:=Fy (N:=n+1) (l:=x::r) (kk:=kf) (by omega) (by omega) (by omega) r [x] (n+1) (by simp;omega) (by simp at hl;omega)
  simp only[List.singleton_append] at this
  rw[this]
  rfl
theorem aln {N:Nat} {l:List aB} {kf:List aB→Option aa} (hl:l.length≤1048576):ajS N l kf=kf l:=om (decide_eq_true (by simp only[List.length_nil];omega))
theorem WV {N:Nat} {l:List aB} {kf:List Int→Option aa} (hl:l.length≤maxLen) (hm:∀ x∈l,x.met.length≤maxLen∧x.met.length<N) (hN:l.length<N) (Cu:20<N):adR N l kf=kf (mA l):=by
 have hx:=aw
 unfold adR mA
 rw[ly hl hm hN]
 cases dt:aG l with
 |false=>rfl
 |true=>
  have h10:l.length≤10:=by
   unfold aG at dt
   simp only[Bool.and_eq_true,decide_eq_true_eq] at dt
   exact dt.1
  have hlen:=sY l
  simp only[Bool.not_true,cond_false,cond_true]
  rw[aln (by omega),vd (by omega) Cu,aan (by omega) (by omega)]
  exact NS (by omega)
def Q6 (a b:aB):Prop:=cV b a=false
theorem WW {a b:aB}:Q6 a b↔ ¬(b.2.2.1>a.2.2.1∨(b.2.2.1=a.2.2.1∧(b.2.2.2.1>a.2.2.2.1∨(b.2.2.2.1=a.2.2.2.1∧b.1<a.1)))):=by
 unfold Q6
 rw[←mv,Bool.not_eq_true]
theorem aa1 {a b c:aB} (h1:Q6 a b) (h2:Q6 b c):Q6 a c:=by
 rw[WW] at*
 omega
theorem SN {a b:aB} (h:cV a b=true):Q6 a b:=by
 rw[WW]
 rw[mv] at h
 omega
theorem SO {a b:aB} (h:a.1≠b.1) (hb:cV a b=false):cV b a=true:=by
 rw[mv]
 rw[←Bool.not_eq_true,mv] at hb
 omega
theorem WX (x:aB) (s:List aB):∀ k i,mw x s k≤i→i<k→cV x (s.getD i au)=true
 |0,i,_,h=>by omega
 |k+1,i,h1,h2=>by
  unfold mw at h1
  cases hb:cV x (s.getD k au) with
  |true=>
   rw[hb,cond_true] at h1
   rcases Nat.lt_or_eq_of_le (Nat.le_of_lt_succ h2) with h3 |rfl
   ·exact WX x s k i h1 h3
   ·exact hb
  |false=>
   rw[hb,cond_false] at h1
   omega
theorem WY (x:aB) (s:List aB):∀ k,0<mw x s k→Q6 (s.getD (mw x s k - 1) au) x
 |0,h=>by simp[mw] at h
 |k+1,h=>by
  unfold mw at h ⊢
  cases hb:cV x (s.getD k au) with
  |true=>rw[hb,cond_true] at h;exact WY x s k h
  |false=>exact hb
theorem aa2 (s:List aB) (x:aB):(rS s x).Perm (x::s):=by
 unfold rS
 refine(List.perm_append_comm.append_right _).trans ?_
 rw[List.append_assoc,List.take_append_drop]
 exact List.Perm.refl _
theorem HK:∀ (l s:List aB),(l.foldl rS s).Perm (l++s)
 |[],s=>List.Perm.refl _
 |x::l,s=>by
  refine(HK l (rS s x)).trans ?_
  refine((aa2 s x).append_left l).trans ?_
  exact List.perm_middle
theorem HL {l:List aB} {x:aB}:x∈my l↔x∈l:=by
 have:=(HK l []).mem_iff (a:=x)
 rw[List.append_nil] at this
 exact this
theorem NU {s:List aB} {x:aB} (h:s.Pairwise Q6):(rS s x).Pairwise Q6:=by
 have hp:=Dr x s s.length
 have Zi:=WY x s s.length
 have DZ:=WX x s s.length
 unfold rS
 generalize mw x s s.length=p at*
 have h0:=h
 rw[←List.take_append_drop p s,List.pairwise_append] at h
 obtain⟨h1,h2,h3⟩:=h
 rw[List.append_assoc,List.pairwise_append]
 have hb:∀ y∈s.drop p,Q6 x y:=fun y hy=>by
  obtain⟨j,hj,rfl⟩:=List.mem_iff_getElem.1 hy
  rw[List.length_drop] at hj
  have:=DZ (p+j) (by omega) (by omega)
  rw[ai _ _ (by omega)] at this
  rw[List.getElem_drop]
  exact SN this
 have ha:∀ y∈s.take p,Q6 y x:=fun y hy=>by
  obtain⟨j,hj,rfl⟩:=List.mem_iff_getElem.1 hy
  rw[List.length_take] at hj
  have:=Zi (by omega)
  rw[ai _ _ (by omega)] at this
  rw[List.getElem_take]
  by_cases hjp:j=p - 1
  ·subst hjp;exact this
  ·exact aa1 (List.pairwise_iff_getElem.1 h0 j (p - 1) (by omega) (by omega) (by omega)) this
 refine⟨h1,?_,?_⟩
 ·rw[List.singleton_append,List.pairwise_cons]
  exact⟨hb,h2⟩
 ·intro a hA b hB
  rw[List.singleton_append,List.mem_cons] at hB
  rcases hB with rfl |hB
  ·exact ha a hA
  ·exact h3 a hA b hB
theorem Jm (l:List aB):(my l).Pairwise Q6:=by
 have:∀ (l s:List aB),s.Pairwise Q6→(l.foldl rS s).Pairwise Q6:=by
  intro l
  induction l with
  |nil=>exact fun s h=>h
  |cons x l ih=>exact fun s h=>ih _ (NU h)
 exact this l [] List.Pairwise.nil
def dd (t:List aB) (id:Int):aB:=t.getD (aF t id).toNat au
def NV (t:List aB) (a b:Int):cq:=bif aG t&&(decide (aF t a≥0)&&(decide (aF t b≥0)&&(aF t a != aF t b))) then
  (bif decide ((dd t b).2.2.2.2.1<(dd t a).2.2.2.2.1) then(b,a) else bif (dd t b).2.2.2.2.1==(dd t a).2.2.2.2.1 then(bif cV (dd t b) (dd t a) then(b,a) else(a,b)) else(a,b)) else(0,0)
theorem alo {N:Nat} {t:List aB} {a b:Int} {kf:cq→Option aa} (hl:t.length≤maxLen) (hm:∀ x∈t,x.met.length≤maxLen∧x.met.length<N) (hN:t.length<N):aj6 N t a b kf=kf (NV t a b):=by
 unfold aj6 NV
 rw[jf hl hN,jf hl hN,j8 hl hm hN]
 cases aG t with
 |false=>rfl
 |true=>
  by_cases ha:aF t a≥0
  rotate_left
  ·rw[decide_eq_true (show aF t a<0 by omega),decide_eq_false ha];rfl
  by_cases hb:aF t b≥0
  rotate_left
  ·rw[decide_eq_false (show ¬aF t a<0 by omega),decide_eq_true ha,decide_eq_true (show aF t b<0 by omega),decide_eq_false hb];rfl
  rw[decide_eq_true ha,decide_eq_true hb,decide_eq_false (show ¬aF t a<0 by omega),decide_eq_false (show ¬aF t b<0 by omega),(eV ha).1,(eV hb).1]
  simp only[cond_true,cond_false,Bool.not_true,Bool.true_and,WU,bne]
  unfold dd
  cases (aF t a==aF t b)
  ·simp only[cond_false,Bool.not_false,cond_true]
   cases decide ((t.getD (aF t b).toNat au).2.2.2.2.1<(t.getD (aF t a).toNat au).2.2.2.2.1)
   ·simp only[cond_false]
    cases ((t.getD (aF t b).toNat au).2.2.2.2.1==(t.getD (aF t a).toNat au).2.2.2.2.1)
    ·rfl
    ·simp only[cond_true]
     cases cV (t.getD (aF t b).toNat au) (t.getD (aF t a).toNat au)<;>rfl
   ·rfl
  ·rfl
theorem WZ {N:Nat} {l:List Int} {n:Int} {kf:Int→Option aa} (hl:l.length≤maxLen) (hN:l.length<N):R8 N l n kf=kf (fA (fun x:Int=>n==x) l):=by
 unfold R8
 rw[HC hl hN,je (p:=fun x:Int=>n==x) (kf:=fun i=>kf (i:Int)) (fun i x next=>rfl)]
 unfold fA
 cases gJ (fun x:Int=>n==x) l 0<;>rfl
theorem jh {t:List aB} {a:Int} (ha:aF t a≥0):dd t a∈t∧(dd t a).1=a:=by
 obtain⟨k,hk,e,h1,_⟩:=bW (p:=fun x:aB=>x.1==a) (l:=t) (by unfold aF at ha;omega)
 have e:aF t a=(k:Int):=e
 unfold dd
 rw[e,Int.toNat_natCast,ai _ _ hk]
 exact⟨List.getElem_mem hk,by simpa using h1⟩
theorem aa3 {t:List aB} (ht:allI (jz t) t 0=true) {x:aB} (hx:x∈t) {a:Int} (e:x.1=a):dd t a=x:=by
 obtain⟨i,hi,rfl⟩:=List.mem_iff_getElem.1 hx
 unfold dd
 rw[(Fl ht hi).2 e.symm,Int.toNat_natCast,ai _ _ hi]
theorem W2 {t:List aB} (ht:allI (jz t) t 0=true) {a:Int} (ha:aF t a≥0):∃ k:Nat,∃ hk:k<(my t).length,fA (fun x:Int=>a==x) ((my t).map fun x:aB=>x.1)=(k:Int)∧(my t)[k]=dd t a:=by
 obtain⟨h1,h2⟩:=jh ha
 have nx:a∈(my t).map fun x:aB=>x.1:=List.mem_map.2 ⟨dd t a,HL.2 h1,h2⟩
 by_cases hn:fA (fun x:Int=>a==x) ((my t).map fun x:aB=>x.1)<0
 ·obtain⟨j,hj,e⟩:=List.mem_iff_getElem.1 nx
  have:=(AE hn).2 j hj
  rw[e] at this
  simp at this
 ·obtain⟨k,hk,e,h3,_⟩:=bW hn
  rw[List.length_map] at hk
  refine⟨k,hk,e,?_⟩
  rw[List.getElem_map,beq_iff_eq] at h3
  exact(aa3 ht (HL.1 (List.getElem_mem hk)) h3.symm).symm
theorem alp {t:List aB} (ht:allI (jz t) t 0=true) {a b:Int} (ha:aF t a≥0) (hb:aF t b≥0) (Q2:a≠b):decide (fA (fun x:Int=>a==x) ((my t).map fun x:aB=>x.1)<fA (fun x:Int=>b==x) ((my t).map fun x:aB=>x.1))=!cV (dd t b) (dd t a):=by
 obtain⟨i,hi,e1,h1⟩:=W2 ht ha
 obtain⟨j,hj,e2,h2⟩:=W2 ht hb
 have hs:=List.pairwise_iff_getElem.1 (Jm t)
 rw[e1,e2]
 rcases Nat.lt_trichotomy i j with h |h |h
 ·have:=hs i j hi hj h
  rw[h1,h2] at this
  unfold Q6 at this
  rw[this,decide_eq_true (by omega)];rfl
 ·subst h
  have:dd t a=dd t b:=by rw[←h1,←h2]
  exact absurd (by rw[←(jh ha).2,←(jh hb).2,this]) Q2
 ·have:=hs j i hj hi h
  rw[h1,h2] at this
  unfold Q6 at this
  have h3:=SO (a:=dd t a) (b:=dd t b) (by rw[(jh ha).2,(jh hb).2];exact Q2) this
  rw[h3,decide_eq_false (by omega)];rfl
theorem alq {N:Nat} {t:List aB} {a b:Int} {kf:cq→Option aa} (hl:t.length≤maxLen) (hm:∀ x∈t,x.met.length≤maxLen∧x.met.length<N) (hN:t.length<N) (Cu:20<N):aj0 N t a b kf=kf (NV t a b):=by
 have hx:=aw
 unfold aj0 NV
 rw[mn hl hN,mn hl hN,ly hl hm hN]
 cases dt:aG t with
 |false=>rfl
 |true=>
  have AH:=dt
  unfold aG at AH
  simp only[Bool.and_eq_true,decide_eq_true_eq] at AH
  obtain⟨h10,ht,_⟩:=AH
  by_cases ha:aF t a≥0
  rotate_left
  ·rw[decide_eq_true (show aF t a<0 by omega),decide_eq_false ha];rfl
  by_cases hb:aF t b≥0
  rotate_left
  ·rw[decide_eq_false (show ¬aF t a<0 by omega),decide_eq_true ha,decide_eq_true (show aF t b<0 by omega),decide_eq_false hb];rfl
  rw[decide_eq_true ha,decide_eq_true hb,decide_eq_false (show ¬aF t a<0 by omega),decide_eq_false (show ¬aF t b<0 by omega),(eV ha).1,(eV hb).1,WV hl hm hN Cu]
  have hlen:=sY t
  have bU:mA t=(my t).map fun x:aB=>x.1:=by unfold mA;rw[dt];rfl
  have Gv:(mA t).length=t.length:=by rw[bU,List.length_map,hlen]
  rw[WZ (by omega) (by omega)]
  simp only[WZ (N:=N) (l:=mA t) (by omega) (by omega)]
  by_cases Q2:a=b
  ·subst Q2;simp
  ·have nF:aF t a≠aF t b:=fun e=>Q2 (by rw[←(jh ha).2,←(jh hb).2];unfold dd;rw[e])
   have e1:(aF t a==aF t b)=false:=by simpa using nF
   simp only[cond_true,cond_false,Bool.not_true,Bool.true_and,bne,e1,Bool.not_false]
   rw[bU,alp ht ha hb Q2]
   show(bif decide ((dd t a).2.2.2.2.1<(dd t b).2.2.2.2.1) then kf (a,b) else bif (dd t a).2.2.2.2.1==(dd t b).2.2.2.2.1 then(bif !cV (dd t b) (dd t a) then kf (a,b) else kf (b,a)) else kf (b,a))=_
   rcases Int.lt_trichotomy (dd t a).2.2.2.2.1 (dd t b).2.2.2.2.1 with h |h |h
   ·rw[decide_eq_true h,decide_eq_false (by omega),cond_true,cond_false]
    have:((dd t b).2.2.2.2.1==(dd t a).2.2.2.2.1)=false:=by simp;omega
    rw[this];rfl
   ·rw[h,decide_eq_false (Int.lt_irrefl _),cond_false,beq_self_eq_true,cond_true,cond_true,cond_false]
    cases cV (dd t b) (dd t a)<;>rfl
   ·rw[decide_eq_false (by omega),decide_eq_true h,cond_true,cond_false]
    have:((dd t a).2.2.2.2.1==(dd t b).2.2.2.2.1)=false:=by simp;omega
    rw[this];rfl
theorem alr {N:Nat} {a b:List Int} {kf:List Int→Option aa} (ha:a.length≤1048700) (hb:b.length≤1048700) (hN:2<N):ajZ N [a,b] kf=kf (a++b):=by
 have hm:=aw
 unfold ajZ
 rw[aao (by simp;omega) (by simpa using hN)]
 simp only[bR]
 rw[wrap64 (n:=(0:Int)+(List.length a:Int)) (by omega) (by omega),decide_eq_false (by omega),cond_false,wrap64 (n:=(0:Int)+(List.length a:Int)+(List.length b:Int)) (by omega) (by omega),decide_eq_false (by omega),cond_false]
 unfold atY
 have e:(List.isEmpty ([]:List Int)&&(decide ((0:Int)≤0+(List.length a:Int)+(List.length b:Int))&&decide (0+(List.length a:Int)+(List.length b:Int)≤(549755813888:Int))))=true:=by
  rw[decide_eq_true (by omega),decide_eq_true (by omega)];rfl
 rw[e,cond_true]
 show ku [a,b] (List.length [a,b]:Int) N kf [] 0=_
 rw[SD (by simp;omega) (by simpa using hN)]
 simp only[bR]
 rw[decide_eq_true (by simp;omega),cond_true,decide_eq_true (by simp;omega),cond_true]
 rfl
end Go.Pv.R
namespace Go.Pv.R
set_option linter.unusedVariables false
set_option linter.unusedSimpArgs false
def ni (L:List Int) (i:Nat):List Int:=List.drop 1 (List.take i L)++List.drop (i+1) L
theorem oq {L:List Int} {i:Nat} (h1:1≤i) (h:i<L.length):(ni L i).length=L.length - 2:=by simp[ni];omega
def qx (t:List aB) (f:List Int→Option (List cq)) (L:List Int):Nat→Nat→Option (List cq)
 |0,_=>none
 |k+1,i=>bif cz t (L.getD 0 0) (L.getD i 0) then
   (match f (ni L i) with
    |some r=>some (NV t (L.getD 0 0) (L.getD i 0)::r)
    |none=>qx t f L k (i+1))
  else qx t f L k (i+1)
def ot (t:List aB):Nat→List Int→Option (List cq)
 |0,_=>none
 |n+1,L=>bif decide (L.length=0) then some [] else qx t (ot t n) L (L.length - 1) 1
def C8 {α β:Type} (o:Option (List α)) (k:List α→Bool→β):β:=match o with |some r=>k r true |none=>k [] false
theorem AI {t:List aB} {f:List Int→Option (List cq)} {L:List Int} (hf:∀ (L':List Int) r,f L'=some r→2*r.length=L'.length):∀ (k i:Nat) r,1≤i→i+k=L.length→qx t f L k i=some r→2*r.length=L.length
 |0,i,r,h0,h,e=>by simp[qx] at e
 |k+1,i,r,h0,h,e=>by
  unfold qx at e
  cases hm:cz t (L.getD 0 0) (L.getD i 0) with
  |false=>rw[hm,cond_false] at e;exact AI hf k (i+1) r (by omega) (by omega) e
  |true=>
   rw[hm,cond_true] at e
   cases hr:f (ni L i) with
   |none=>rw[hr] at e;exact AI hf k (i+1) r (by omega) (by omega) e
   |some r'=>
    rw[hr] at e
    injection e with e
    subst e
    have h1:=hf _ _ hr
    rw[oq h0 (by omega)] at h1
    simp only[List.length_cons]
    omega
theorem sZ {t:List aB}:∀ (n:Nat) (L:List Int) r,ot t n L=some r→2*r.length=L.length
 |0,L,r,e=>by simp[ot] at e
 |n+1,L,r,e=>by
  unfold ot at e
  by_cases h:L.length=0
  ·rw[decide_eq_true h,cond_true] at e
   injection e with e
   subst e
   simp[h]
  ·rw[decide_eq_false h,cond_false] at e
   exact AI (fun L' r' e'=>sZ n L' r' e') (L.length - 1) 1 r (by omega) (by omega) e
theorem NW {L:List Int} {i:Nat} (h1:1≤i) (h:i<L.length):(decide ((0:Int)≤(1:Int))&&decide ((1:Int)≤(i:Int))&&decide ((i:Int)≤(List.length L:Int)))=true∧(decide ((0:Int)≤((i+1:Nat):Int))&&decide (((i+1:Nat):Int)≤(List.length L:Int))&&decide ((List.length L:Int)≤(List.length L:Int)))=true:=by
 constructor
 ·rw[decide_eq_true (by omega),decide_eq_true (by omega),decide_eq_true (by omega)];rfl
 ·rw[decide_eq_true (by omega),decide_eq_true (by omega),decide_eq_true (by omega)];rfl
theorem Fz {N B:Nat} {self:List aB→List Int→(List cq→Bool→Option aa)→Option aa} {t:List aB} {f:List Int→Option (List cq)} {L:List Int} {k0:Option aa} {kf:List cq→Bool→Option aa}
  (hl:t.length≤maxLen) (hm:∀ x∈t,x.met.length≤maxLen∧x.met.length<N) (hN:t.length<N) (Cu:20<N) (hL:L.length≤1000)
  (hs:∀ (i:Nat) k,1≤i→i<L.length→self t (ni L i) k=C8 (f (ni L i)) k) (Cb:∀ (L':List Int) r,f L'=some r→2*r.length=L'.length):∀ (k i n:Nat),1≤i→i+k=L.length→k<n→
  pM N self t L n k0 kf (i:Int)=match qx t f L k i with |some r=>kf r true |none=>k0
 |0,i,n+1,h1,h,hn=>by
  simp only[pM]
  rw[decide_eq_false (by omega)]
  rfl
 |k+1,i,n+1,h1,h,hn=>by
  have hx:=aw
  have ih:=Fz (k0:=k0) (kf:=kf) (B:=B) hl hm hN Cu hL hs Cb k (i+1) n (by omega) (by omega) (by omega)
  obtain⟨d1,d2⟩:=NW (L:=L) h1 (by omega)
  have ew:IntKind.wrap .i64 ((i:Int)+1)=((i+1:Nat):Int):=fG (m:=L.length) (i:=i) (by omega) (by omega)
  simp only[pM]
  rw[decide_eq_true (by omega),cond_true,show aN (0:Int) (List.length L)=true from an (i:=0) (show 0<L.length by omega),cond_true,an (show i<L.length by omega),cond_true,WK hl hm hN]
  unfold qx
  show(bif !cz t (L.getD 0 0) (L.getD i 0) then _ else _)=_
  cases cz t (L.getD 0 0) (L.getD i 0) with
  |false=>
   simp only[Bool.not_false,cond_true,cond_false]
   rw[ew]
   exact ih
  |true=>
   simp only[Bool.not_true,cond_true,cond_false]
   rw[d1,cond_true,ew,d2,cond_true]
   have e3:(([]:List Int)++List.drop (Int.toNat (1:Int)) (List.take (Int.toNat (i:Int)) L))++List.drop (Int.toNat ((i+1:Nat):Int)) (List.take (Int.toNat (List.length L:Int)) L)=ni L i:=by
    rw[Int.toNat_natCast,Int.toNat_natCast,Int.toNat_natCast,List.take_length];rfl
   rw[e3]
   rw[decide_eq_true (by simp;omega),cond_true,decide_eq_true (by simp;omega),cond_true,hs i _ h1 (by omega)]
   unfold C8
   cases hr:f (ni L i) with
   |none=>exact ih
   |some r=>
    have h2:=Cb _ _ hr
    rw[oq h1 (by omega)] at h2
    simp only[cond_true]
    rw[alo hl hm hN,decide_eq_true (by simp;omega),cond_true]
    rfl
theorem W3 {t:List aB} {B:Nat} (hl:t.length≤maxLen) (hm:∀ x∈t,x.met.length≤maxLen∧x.met.length<B) (hB:t.length<B) (Cu:20<B):∀ (n N:Nat) (L:List Int) (kf:List cq→Bool→Option aa),L.length≤n→L.length<B→L.length≤1000→B+n+1≤N→Ss N t L kf=C8 (ot t (n+1) L) kf
 |n,0,L,kf,_,_,_,h=>by omega
 |n,N+1,L,kf,h1,h2,h3,h=>by
  show Sr (Ss N) N t L kf=_
  unfold Sr ot
  by_cases h0:L.length=0
  ·rw[decide_eq_true h0,cond_true]
   have:((List.length L:Int)==0)=true:=by simp[h0]
   rw[this];rfl
  ·rw[decide_eq_false h0,cond_false]
   have:((List.length L:Int)==0)=false:=by simp;intro e;exact h0 (by simp[e])
   rw[this,cond_false]
   obtain⟨n,rfl⟩:∃ m,n=m+1:=⟨n - 1,by omega⟩
   have:=Fz (N:=N) (B:=B) (self:=Ss N) (t:=t) (f:=ot t (n+1)) (L:=L) (k0:=kf [] false) (kf:=kf) hl (fun x hx=>⟨(hm x hx).1,by have:=(hm x hx).2;omega⟩) (by omega) (by omega) h3 (fun i k hi1 mF=>by
    have hr:=oq hi1 mF
    exact W3 hl hm hB Cu n N (ni L i) k (by omega) (by omega) (by omega) (by omega)) (fun L' r e=>sZ (n+1) L' r e) (L.length - 1) 1 N (by omega) (by omega) (by omega)
   refine Eq.trans this ?_
   unfold C8
   cases qx t (ot t (n+1)) L (L.length - 1) 1<;>rfl
theorem FA {N B:Nat} {self:List aB→List Int→(List cq→Bool→Option aa)→Option aa} {t:List aB} {f:List Int→Option (List cq)} {L:List Int} {k0:Option aa} {kf:List cq→Bool→Option aa}
  (hl:t.length≤maxLen) (hm:∀ x∈t,x.met.length≤maxLen∧x.met.length<N) (hN:t.length<N) (Cu:20<N) (hL:L.length≤1000)
  (hs:∀ (i:Nat) k,1≤i→i<L.length→self t (ni L i) k=C8 (f (ni L i)) k) (Cb:∀ (L':List Int) r,f L'=some r→2*r.length=L'.length):∀ (k i n:Nat),1≤i→i+k=L.length→k<n→
  pC N self t L n k0 kf (i:Int)=match qx t f L k i with |some r=>kf r true |none=>k0
 |0,i,n+1,h1,h,hn=>by
  simp only[pC]
  rw[decide_eq_false (by omega)]
  rfl
 |k+1,i,n+1,h1,h,hn=>by
  have hx:=aw
  have ih:=FA (k0:=k0) (kf:=kf) (B:=B) hl hm hN Cu hL hs Cb k (i+1) n (by omega) (by omega) (by omega)
  obtain⟨d1,d2⟩:=NW (L:=L) h1 (by omega)
  have ew:IntKind.wrap .i64 ((i:Int)+1)=((i+1:Nat):Int):=fG (m:=L.length) (i:=i) (by omega) (by omega)
  simp only[pC]
  rw[decide_eq_true (by omega),cond_true,show aN (0:Int) (List.length L)=true from an (i:=0) (show 0<L.length by omega),cond_true,an (show i<L.length by omega),cond_true,ae1 hl hm hN]
  unfold qx
  show(bif !cz t (L.getD 0 0) (L.getD i 0) then _ else _)=_
  cases cz t (L.getD 0 0) (L.getD i 0) with
  |false=>
   simp only[Bool.not_false,cond_true,cond_false]
   rw[ew]
   exact ih
  |true=>
   simp only[Bool.not_true,cond_true,cond_false]
   rw[d1,cond_true,ew,d2,cond_true]
   have e3:List.drop (Int.toNat (1:Int)) (List.take (Int.toNat (i:Int)) L)++List.drop (Int.toNat ((i+1:Nat):Int)) (List.take (Int.toNat (List.length L:Int)) L)=ni L i:=by
    rw[Int.toNat_natCast,Int.toNat_natCast,Int.toNat_natCast,List.take_length];rfl
   rw[alr (by simp;omega) (by simp;omega) (by omega),e3,hs i _ h1 (by omega)]
   unfold C8
   cases hr:f (ni L i) with
   |none=>exact ih
   |some r=>
    have h2:=Cb _ _ hr
    rw[oq h1 (by omega)] at h2
    simp only[cond_true]
    rw[alq hl hm hN Cu,decide_eq_true (by simp;omega),cond_true]
    rfl
theorem W4 {t:List aB} {B:Nat} (hl:t.length≤maxLen) (hm:∀ x∈t,x.met.length≤maxLen∧x.met.length<B) (hB:t.length<B) (Cu:20<B):∀ (n N:Nat) (L:List Int) (kf:List cq→Bool→Option aa),L.length≤n→L.length<B→L.length≤1000→B+n+1≤N→Sg N t L kf=C8 (ot t (n+1) L) kf
 |n,0,L,kf,_,_,_,h=>by omega
 |n,N+1,L,kf,h1,h2,h3,h=>by
  show Sf (Sg N) N t L kf=_
  unfold Sf ot
  by_cases h0:L.length=0
  ·rw[decide_eq_true h0,cond_true]
   have:((List.length L:Int)==0)=true:=by simp[h0]
   rw[this];rfl
  ·rw[decide_eq_false h0,cond_false]
   have:((List.length L:Int)==0)=false:=by simp;intro e;exact h0 (by simp[e])
   rw[this,cond_false]
   obtain⟨n,rfl⟩:∃ m,n=m+1:=⟨n - 1,by omega⟩
   have:=FA (N:=N) (B:=B) (self:=Sg N) (t:=t) (f:=ot t (n+1)) (L:=L) (k0:=kf [] false) (kf:=kf) hl (fun x hx=>⟨(hm x hx).1,by have:=(hm x hx).2;omega⟩) (by omega) (by omega) h3 (fun i k hi1 mF=>by
    have hr:=oq hi1 mF
    exact W4 hl hm hB Cu n N (ni L i) k (by omega) (by omega) (by omega) (by omega)) (fun L' r e=>sZ (n+1) L' r e) (L.length - 1) 1 N (by omega) (by omega) (by omega)
   refine Eq.trans this ?_
   unfold C8
   cases qx t (ot t (n+1)) L (L.length - 1) 1<;>rfl
def kQ (t:List aB):Option (List cq):=bif aG t then bif decide (t.length%2=1) then none else ot t (t.length+1) (mA t) else none
theorem ve {t:List aB} (h:aG t=true):(mA t).length=t.length:=by unfold mA;rw[h,cond_true,List.length_map,sY]
theorem FC {t:List aB} {r:List cq} (h:kQ t=some r):2*r.length=t.length∧t.length≤10:=by
 unfold kQ at h
 cases dt:aG t with
 |false=>rw[dt] at h;simp at h
 |true=>
  have AH:=dt
  unfold aG at AH
  simp only[Bool.and_eq_true,decide_eq_true_eq] at AH
  rw[dt,cond_true] at h
  by_cases ho:t.length%2=1
  ·rw[decide_eq_true ho] at h;simp at h
  ·rw[decide_eq_false ho,cond_false] at h
   have:=sZ _ _ _ h
   rw[ve dt] at this
   exact⟨this,AH.1⟩
theorem ar8 (n:Nat):(Int.tmod (n:Int) 2==1)=decide (n%2=1):=by
 have:Int.tmod (n:Int) 2=((n%2:Nat):Int):=by
  rw[Int.tmod_eq_emod_of_nonneg (by omega)];omega
 rw[this]
 by_cases h:n%2=1
 ·rw[h];rfl
 ·rw[decide_eq_false h];simp;omega
theorem auV {N:Nat} {t:List aB} {kf:List cq→Bool→Option aa} (hl:t.length≤maxLen) (hm:∀ x∈t,x.met.length≤maxLen∧x.met.length+20<N) (hN:t.length+20<N) (h60:60<N):S91 N t kf=C8 (kQ t) kf:=by
 have hx:=aw
 unfold S91 kQ
 rw[j8 hl (fun x hx=>⟨(hm x hx).1,by have:=(hm x hx).2;omega⟩) (by omega)]
 cases dt:aG t with
 |false=>rfl
 |true=>
  have AH:=dt
  unfold aG at AH
  simp only[Bool.and_eq_true,decide_eq_true_eq] at AH
  rw[ar8]
  by_cases ho:t.length%2=1
  ·rw[decide_eq_true ho];rfl
  ·rw[decide_eq_false ho]
   simp only[Bool.not_true,cond_true,cond_false]
   rw[alk hl (fun x hx=>⟨(hm x hx).1,by have:=(hm x hx).2;omega⟩) (by omega)]
   have hs:=ve dt
   exact W3 (B:=N - 15) hl (fun x hx=>⟨(hm x hx).1,by have:=(hm x hx).2;omega⟩) (by omega) (by omega) t.length N _ _ (by omega) (by omega) (by omega) (by omega)
theorem als {N:Nat} {t:List aB} {kf:List cq→Bool→Option aa} (hl:t.length≤maxLen) (hm:∀ x∈t,x.met.length≤maxLen∧x.met.length+20<N) (hN:t.length+20<N) (h60:60<N):aj1 N t kf=C8 (kQ t) kf:=by
 have hx:=aw
 unfold aj1 kQ
 rw[ly hl (fun x hx=>⟨(hm x hx).1,by have:=(hm x hx).2;omega⟩) (by omega)]
 cases dt:aG t with
 |false=>rfl
 |true=>
  have AH:=dt
  unfold aG at AH
  simp only[Bool.and_eq_true,decide_eq_true_eq] at AH
  rw[ar8]
  by_cases ho:t.length%2=1
  ·rw[decide_eq_true ho];rfl
  ·rw[decide_eq_false ho]
   simp only[Bool.not_true,cond_true,cond_false]
   rw[WV hl (fun x hx=>⟨(hm x hx).1,by have:=(hm x hx).2;omega⟩) (by omega) (by omega)]
   have hs:=ve dt
   exact W4 (B:=N - 15) hl (fun x hx=>⟨(hm x hx).1,by have:=(hm x hx).2;omega⟩) (by omega) (by omega) t.length N _ _ (by omega) (by omega) (by omega) (by omega)
end Go.Pv.R
namespace Go.Pv.R
set_option linter.unusedVariables false
set_option linter.unusedSimpArgs false
def rT (t:List aB) (js:List aZ) (p:cq) (used:List Int) (f:List Int→Option (List Int)):Nat→Nat→Option (List Int)
 |0,_=>none
 |k+1,i=>bif lz used (js.getD i b9).1 then rT t js p used f k (i+1) else
   bif dx t (js.getD i b9) p then
   (match f (used++[(js.getD i b9).1]) with
    |some r=>some ((js.getD i b9).1::r)
    |none=>rT t js p used f k (i+1))
  else rT t js p used f k (i+1)
def qy (t:List aB) (js:List aZ):List cq→List Int→Option (List Int)
 |[],_=>some []
 |p::ps,used=>rT t js p used (qy t js ps) js.length 0
def auW {α β:Type} (o:Option (List α)) (k0:β) (k:List α→Bool→β):β:=match o with |some r=>k r true |none=>k0
theorem W5 {α β:Type} (o:Option (List α)) (k:List α→Bool→β):auW o (k [] false) k=C8 o k:=by cases o<;>rfl
def SP (js:List aZ) (n:Nat) (used r:List Int):Prop:=r.length=n∧r.Nodup∧∀ x∈r,x∈js.map (fun x:aZ=>x.1)∧x∉used
theorem s4 {t:List aB} {js:List aZ} {p:cq} {used:List Int} {f:List Int→Option (List Int)} {n:Nat} (hf:∀ u r,f u=some r→SP js n u r):∀ (k i:Nat) r,i+k=js.length→rT t js p used f k i=some r→SP js (n+1) used r
 |0,i,r,h,e=>by simp[rT] at e
 |k+1,i,r,h,e=>by
  unfold rT at e
  cases hu:lz used (js.getD i b9).1 with
  |true=>rw[hu,cond_true] at e;exact s4 hf k (i+1) r (by omega) e
  |false=>
   rw[hu,cond_false] at e
   cases hm:dx t (js.getD i b9) p with
   |false=>rw[hm,cond_false] at e;exact s4 hf k (i+1) r (by omega) e
   |true=>
    rw[hm,cond_true] at e
    cases hr:f (used++[(js.getD i b9).1]) with
    |none=>rw[hr] at e;exact s4 hf k (i+1) r (by omega) e
    |some r'=>
     rw[hr] at e
     injection e with e
     subst e
     obtain⟨h1,h2,h3⟩:=hf _ _ hr
     have eX:(js.getD i b9).1∈js.map (fun x:aZ=>x.1):=by
      rw[ai _ _ (show i<js.length by omega)]
      exact List.mem_map.2 ⟨_,List.getElem_mem _,rfl⟩
     have hnu:(js.getD i b9).1∉used:=fun hc=>by
      have:=mq.2 hc
      rw[hu] at this
      cases this
     refine⟨by simp[h1],List.nodup_cons.2 ⟨fun hc=>?_,h2⟩,fun x hx=>?_⟩
     ·have:=(h3 _ hc).2
      simp at this
     ·rcases List.mem_cons.1 hx with rfl |hx
      ·exact⟨eX,hnu⟩
      ·obtain⟨q1,q2⟩:=h3 x hx
       refine⟨q1,fun hc=>q2 ?_⟩
       simp[hc]
theorem rU {t:List aB} {js:List aZ}:∀ (ps:List cq) (used r:List Int),qy t js ps used=some r→SP js ps.length used r
 |[],used,r,e=>by
  unfold qy at e
  injection e with e
  subst e
  exact⟨rfl,List.nodup_nil,fun x hx=>by simp at hx⟩
 |p::ps,used,r,e=>s4 (fun u r e=>rU ps u r e) js.length 0 r (by omega) e
theorem ou:∀ (r L:List Int),r.Nodup→(∀ x∈r,x∈L)→r.length≤L.length
 |[],L,_,_=>by simp
 |x::r,L,hn,h=>by
  rw[List.nodup_cons] at hn
  have hx:=h x (by simp)
  have h1:=List.length_erase_of_mem hx
  have h2:=List.length_pos_of_mem hx
  have:=ou r (L.erase x) hn.2 fun y hy=>by
   have nF:y≠x:=fun e=>hn.1 (e▸hy)
   exact(List.mem_erase_of_ne nF).2 (h y (by simp[hy]))
  simp only[List.length_cons]
  omega
theorem afd {t:List aB} {js:List aZ} {ps:List cq} {used r:List Int} (h:qy t js ps used=some r):ps.length≤js.length:=by
 obtain⟨h1,h2,h3⟩:=rU ps used r h
 have:=ou r (js.map fun x:aZ=>x.1) h2 fun x hx=>(h3 x hx).1
 rw[List.length_map] at this
 omega
theorem W6 {p:cq} {ps:List cq}:(decide ((0:Int)≤(1:Int))&&decide ((1:Int)≤(List.length (p::ps):Int))&&decide ((List.length (p::ps):Int)≤(List.length (p::ps):Int)))=true∧List.drop (Int.toNat (1:Int)) (List.take (Int.toNat (List.length (p::ps):Int)) (p::ps))=ps:=by
 constructor
 ·rw[decide_eq_true (by omega),decide_eq_true (by simp only[List.length_cons];omega),decide_eq_true (by omega)];rfl
 ·rw[Int.toNat_natCast,List.take_length];rfl
theorem FD {N:Nat} {self:List aB→List aZ→List cq→List Int→(List Int→Bool→Option aa)→Option aa} {t:List aB} {js:List aZ} {p:cq} {ps:List cq} {used:List Int} {f:List Int→Option (List Int)} {k0:Option aa} {kf:List Int→Bool→Option aa}
  (hl:t.length≤maxLen) (hN:t.length<N) (Cu:20<N) (hj:js.length≤1048700) (xC:∀ x∈js,x.2.2.length≤maxLen∧x.2.2.length<N) (hu:used.length≤1000) (huN:used.length<N)
  (hs:∀ (x:Int) k,self t js ps (used++[x]) k=C8 (f (used++[x])) k) (Cb:∀ (u:List Int) r,f u=some r→r.length≤1000):∀ (k i n:Nat),i+k=js.length→k<n→
  m6 N self t js (p::ps) used n k0 kf (i:Int)=auW (rT t js p used f k i) k0 kf
 |0,i,n+1,h,hn=>by
  simp only[m6]
  rw[decide_eq_false (by omega)]
  rfl
 |k+1,i,n+1,h,hn=>by
  have hx:=aw
  have ih:=FD (k0:=k0) (kf:=kf) (p:=p) hl hN Cu hj xC hu huN hs Cb k (i+1) n (by omega) (by omega)
  have ew:IntKind.wrap .i64 ((i:Int)+1)=((i+1:Nat):Int):=fG (m:=js.length) (i:=i) (by omega) (by omega)
  obtain⟨d1,d2⟩:=W6 (p:=p) (ps:=ps)
  have hi:i<js.length:=by omega
  obtain⟨m1,m2⟩:=xC js[i] (List.getElem_mem hi)
  simp only[m6]
  rw[decide_eq_true (by omega),cond_true,an hi,cond_true,p9 (by omega) huN]
  unfold rT
  have eg:js.getD (Int.toNat (i:Int)) b9=js[i]:=ai _ _ hi _
  have eg2:js.getD i b9=js[i]:=ai _ _ hi _
  rw[eg,eg2]
  cases lz used js[i].1 with
  |true=>
   simp only[cond_true]
   rw[ew]
   exact ih
  |false=>
   simp only[cond_false]
   rw[cond_true,show aN (0:Int) (List.length (p::ps))=true from an (i:=0) (by simp),cond_true,WL hl hN m1 m2]
   show(bif !dx t js[i] p then _ else _)=_
   cases dx t js[i] p with
   |false=>
    simp only[Bool.not_false,cond_true,cond_false]
    rw[ew]
    exact ih
   |true=>
    simp only[Bool.not_true,cond_true,cond_false]
    rw[d1,cond_true,d2,decide_eq_true (by simp;omega),cond_true,decide_eq_true (by simp;omega),cond_true,List.nil_append,hs,ew]
    unfold C8
    cases hr:f (used++[js[i].1]) with
    |none=>exact ih
    |some r=>
     have:=Cb _ _ hr
     simp only[cond_true]
     rw[decide_eq_true (by simp;omega),cond_true]
     rfl
theorem FE {N:Nat} {self:List aB→List aZ→List cq→List Int→(List Int→Bool→Option aa)→Option aa} {t:List aB} {js:List aZ} {p:cq} {ps:List cq} {used:List Int} {f:List Int→Option (List Int)} {k0:Option aa} {kf:List Int→Bool→Option aa}
  (hl:t.length≤maxLen) (hN:t.length<N) (Cu:20<N) (hj:js.length≤1048700) (xC:∀ x∈js,x.2.2.length≤maxLen∧x.2.2.length<N) (hu:used.length≤1000) (huN:used.length<N)
  (hs:∀ (x:Int) k,self t js ps (used++[x]) k=C8 (f (used++[x])) k) (Cb:∀ (u:List Int) r,f u=some r→r.length≤1000):∀ (k i n:Nat),i+k=js.length→k<n→
  mT N self t js (p::ps) used js (js.length:Int) n k0 kf (i:Int)=auW (rT t js p used f k i) k0 kf
 |0,i,n+1,h,hn=>by
  simp only[mT]
  rw[decide_eq_false (by omega)]
  rfl
 |k+1,i,n+1,h,hn=>by
  have hx:=aw
  have ih:=FE (k0:=k0) (kf:=kf) (p:=p) hl hN Cu hj xC hu huN hs Cb k (i+1) n (by omega) (by omega)
  have ew:IntKind.wrap .i64 ((i:Int)+1)=((i+1:Nat):Int):=fG (m:=js.length) (i:=i) (by omega) (by omega)
  obtain⟨d1,d2⟩:=W6 (p:=p) (ps:=ps)
  have hi:i<js.length:=by omega
  obtain⟨m1,m2⟩:=xC js[i] (List.getElem_mem hi)
  simp only[mT]
  rw[decide_eq_true (by omega),cond_true,an hi,cond_true,Jb (by omega) huN]
  unfold rT
  have eg:js.getD (Int.toNat (i:Int)) b9=js[i]:=ai _ _ hi _
  have eg2:js.getD i b9=js[i]:=ai _ _ hi _
  rw[eg,eg2]
  cases lz used js[i].1 with
  |true=>
   simp only[cond_true]
   rw[ew]
   exact ih
  |false=>
   simp only[cond_false]
   rw[show aN (0:Int) (List.length (p::ps))=true from an (i:=0) (by simp),cond_true,ae2 hl hN m1 m2 (by omega)]
   show(bif !dx t js[i] p then _ else _)=_
   cases dx t js[i] p with
   |false=>
    simp only[Bool.not_false,cond_true,cond_false]
    rw[ew]
    exact ih
   |true=>
    simp only[Bool.not_true,cond_true,cond_false]
    rw[d1,cond_true,d2,Dm (by omega),decide_eq_true (by simp;omega),cond_true,hs,ew]
    unfold C8
    cases hr:f (used++[js[i].1]) with
    |none=>exact ih
    |some r=>
     have:=Cb _ _ hr
     simp only[cond_true]
     rw[decide_eq_true (by simp;omega),cond_true]
     rfl
theorem W7 {t:List aB} {js:List aZ} {B:Nat} (hl:t.length≤maxLen) (hN:t.length<B) (Cu:20<B) (hj:js.length≤1048700) (hjN:js.length<B) (xC:∀ x∈js,x.2.2.length≤maxLen∧x.2.2.length<B):∀ (ps:List cq) (N:Nat) (used:List Int) (kf:List Int→Bool→Option aa),used.length+ps.length≤900→used.length+ps.length<B→B+ps.length+1≤N→Sw N t js ps used kf=C8 (qy t js ps used) kf
 |ps,0,used,kf,_,_,h=>by omega
 |[],N+1,used,kf,_,_,_=>rfl
 |p::ps,N+1,used,kf,h1,h2,h=>by
  simp only[List.length_cons] at h h1 h2
  show Sv (Sw N) N t js (p::ps) used kf=_
  unfold Sv qy
  have e:((List.length (p::ps):Int)==0)=false:=by simp;omega
  rw[e,cond_false,←W5]
  exact FD (N:=N) (self:=Sw N) (f:=qy t js ps) hl (by omega) (by omega) hj (fun x hx=>⟨(xC x hx).1,by have:=(xC x hx).2;omega⟩) (by omega) (by omega) (fun x k=>W7 hl hN Cu hj hjN xC ps N _ k (by simp;omega) (by simp;omega) (by omega)) (fun u r e=>by have:=(rU ps u r e).1;omega) js.length 0 N (by omega) (by omega)
theorem W8 {t:List aB} {js:List aZ} {B:Nat} (hl:t.length≤maxLen) (hN:t.length<B) (Cu:20<B) (hj:js.length≤1048700) (hjN:js.length<B) (xC:∀ x∈js,x.2.2.length≤maxLen∧x.2.2.length<B):∀ (ps:List cq) (N:Nat) (used:List Int) (kf:List Int→Bool→Option aa),used.length+ps.length≤900→used.length+ps.length<B→B+ps.length+1≤N→Si N t js ps used kf=C8 (qy t js ps used) kf
 |ps,0,used,kf,_,_,h=>by omega
 |[],N+1,used,kf,_,_,_=>rfl
 |p::ps,N+1,used,kf,h1,h2,h=>by
  simp only[List.length_cons] at h h1 h2
  show Sh (Si N) N t js (p::ps) used kf=_
  unfold Sh qy
  have e:((List.length (p::ps):Int)==0)=false:=by simp;omega
  rw[e,cond_false,←W5]
  exact FE (N:=N) (self:=Si N) (f:=qy t js ps) hl (by omega) (by omega) hj (fun x hx=>⟨(xC x hx).1,by have:=(xC x hx).2;omega⟩) (by omega) (by omega) (fun x k=>W8 hl hN Cu hj hjN xC ps N _ k (by simp;omega) (by simp;omega) (by omega)) (fun u r e=>by have:=(rU ps u r e).1;omega) js.length 0 N (by omega) (by omega)
def jk (t:List aB) (js:List aZ) (ps:List cq):Option (List Int):=bif bT js&&aG t then qy t js ps [] else none
theorem afe {N:Nat} {t:List aB} {js:List aZ} {ps:List cq} {kf:List Int→Bool→Option aa} (hl:t.length≤maxLen) (hm:∀ x∈t,x.met.length≤maxLen∧x.met.length+20<N) (hN:t.length+20<N) (h60:60<N) (hj:js.length≤1048700) (hjN:js.length+20<N) (xC:∀ x∈js,x.2.2.length≤maxLen∧x.2.2.length+20<N) (hp:ps.length≤10):S92 N t js ps kf=C8 (jk t js ps) kf:=by
 have hx:=aw
 unfold S92 jk
 rw[Jc (by omega) (fun x hx=>⟨(xC x hx).1,by have:=(xC x hx).2;omega⟩) (by omega)]
 cases bT js with
 |false=>rfl
 |true=>
  simp only[Bool.not_true,cond_false,Bool.true_and]
  rw[j8 hl (fun x hx=>⟨(hm x hx).1,by have:=(hm x hx).2;omega⟩) (by omega)]
  cases aG t with
  |false=>rfl
  |true=>exact W7 (B:=N - 15) hl (by omega) (by omega) hj (by omega) (fun x hx=>⟨(xC x hx).1,by have:=(xC x hx).2;omega⟩) ps N [] kf (by simp;omega) (by simp;omega) (by omega)
theorem W9 {N:Nat} {t:List aB} {js:List aZ} {ps:List cq} {kf:List Int→Bool→Option aa} (hl:t.length≤maxLen) (hm:∀ x∈t,x.met.length≤maxLen∧x.met.length+20<N) (hN:t.length+20<N) (h60:60<N) (hj:js.length≤1048700) (hjN:js.length+20<N) (xC:∀ x∈js,x.2.2.length≤maxLen∧x.2.2.length+20<N) (hp:ps.length≤10):aj2 N t js ps kf=C8 (jk t js ps) kf:=by
 have hx:=aw
 unfold aj2 jk
 rw[SJ (by omega) (fun x hx=>⟨(xC x hx).1,by have:=(xC x hx).2;omega⟩) (by omega)]
 cases bT js with
 |false=>rfl
 |true=>
  simp only[Bool.not_true,cond_false,Bool.true_and]
  rw[ly hl (fun x hx=>⟨(hm x hx).1,by have:=(hm x hx).2;omega⟩) (by omega)]
  cases aG t with
  |false=>rfl
  |true=>
   simp only[Bool.not_true,cond_false,cond_true]
   by_cases hgt:ps.length>js.length
   ·rw[decide_eq_true (by omega),cond_true]
    cases hs:qy t js ps [] with
    |none=>rfl
    |some r=>have:=afd hs;omega
   ·rw[decide_eq_false (by omega),cond_false]
    exact W8 (B:=N - 15) hl (by omega) (by omega) hj (by omega) (fun x hx=>⟨(xC x hx).1,by have:=(xC x hx).2;omega⟩) ps N [] kf (by simp;omega) (by simp;omega) (by omega)
def NX (c:aO) (ps:List cq) (ss:List Int):aO:=(c.1,(c.2.1,(ps,(ss,(List.replicate ps.length ((0:Int),((0:Int),(0:Int))),c.2.2.2.2.2)))))
def nj (c:aO):Bool:=decide (c.2.2.1.length=0)&&decide (0<c.1.length)
def dy (c:aO):aO×Bool:=match kQ c.1 with
 |none=>(c,false)
 |some ps=>match jk c.1 c.2.1 ps with
  |none=>(c,false)
  |some ss=>bif nj c then(gw c (NX c ps ss) 3 0,e8 c (NX c ps ss) 3 0) else(c,false)
theorem NY {c:aO} {N:Nat} {ps:List cq} {ss:List Int} (h:br c N) (hp:ps.length≤10) (hs:ss.length≤10) (hN:60<N):br (NX c ps ss) N:=
 ⟨h.tl,h.tm,h.tN,h.jl,h.jm,h.jN,by show ps.length≤_;omega,by show 2*ps.length<_;omega,by show ss.length≤_;omega,by show ss.length<_;omega,by show(List.replicate _ _).length≤_;rw[List.length_replicate];omega,by show(List.replicate _ _).length<_;rw[List.length_replicate];omega,h.ml,h.mN,h.n8,h.tb,h.tmb,h.jb,h.jmb⟩
theorem FF {t:List aB} {js:List aZ} {ps:List cq} {ss:List Int} (h:jk t js ps=some ss):ss.length=ps.length:=by
 unfold jk at h
 cases hb:(bT js&&aG t) with
 |false=>rw[hb] at h;simp at h
 |true=>rw[hb,cond_true] at h;exact(rU _ _ _ h).1
theorem auX {N:Nat} {c:aO} {kf:aO→Bool→Option aa} (h:br c N) (h':br c (N - 40)) (hN:200<N) (hl:c.2.2.2.2.2.1.length+1<N):S21 N c kf=kf (dy c).1 (dy c).2:=by
 have hx:=aw
 have t1:=h'.tN
 have t2:=h'.jN
 have t3:=h'.tm
 have t4:=h'.jm
 have hj:=h.jb
 have htm:∀ x:aB,x∈c.1→x.met.length≤maxLen∧x.met.length+20<N:=fun x hx=>⟨(t3 x hx).1,by have:=(t3 x hx).2;omega⟩
 have xC:∀ x∈c.2.1,x.2.2.length≤maxLen∧x.2.2.length+20<N:=fun x hx=>⟨(t4 x hx).1,by have:=(t4 x hx).2;omega⟩
 have ur:∀ out cO iF,S93 N c out false cO iF kf=kf c false:=fun out cO iF=>(va (out:=out) h (fun e=>by cases e) hN hl)
 unfold S21 dy
 rw[rL h,auV h.tl htm (by omega) (by omega)]
 unfold C8
 cases hr:kQ c.1 with
 |none=>
  simp only[]
  rw[afe h.tl htm (by omega) (by omega) hj (by omega) xC (by simp)]
  unfold C8
  cases jk c.1 c.2.1 []<;>exact ur _ _ _
 |some ps=>
  obtain⟨l1,l2⟩:=FC hr
  simp only[]
  rw[afe h.tl htm (by omega) (by omega) hj (by omega) xC (by omega)]
  unfold C8
  have e0:(decide ((List.length ps:Int)=(List.length ps:Int))&&decide ((0:Int)≤(List.length ps:Int))&&decide ((List.length ps:Int)≤1099511627776))=true:=by
   rw[decide_eq_true rfl,decide_eq_true (by omega),decide_eq_true (by omega)];rfl
  have e0t:(decide True&&decide ((0:Int)≤(List.length ps:Int))&&decide ((List.length ps:Int)≤1099511627776))=true:=by
   rw[decide_eq_true trivial,decide_eq_true (by omega),decide_eq_true (by omega)];rfl
  cases hs:jk c.1 c.2.1 ps with
  |none=>
   simp only[]
   first |rw[e0] |rw[e0t]
   exact ur _ _ _
  |some ss=>
   have l3:=FF hs
   have hd:=fun ok=>va (out:=NX c ps ss) (ok:=ok) (cO:=3) (iF:=0) (kf:=kf) h (fun _=>NY h (by omega) (by omega) (by omega)) hN hl
   simp only[]
   first |rw[e0] |rw[e0t]
   simp only[cond_true]
   unfold S94 nj
   by_cases cf:c.2.2.1.length=0
   ·rw[decide_eq_false (show ¬(List.length c.2.2.1:Int)>0 by omega),decide_eq_true cf]
    simp only[Bool.not_false,cond_true,Bool.true_and]
    have e2:decide ((List.length c.1:Int)>(0:Int))=decide (0<c.1.length):=decide_eq_decide.2 (by omega)
    rw[e2]
    refine(hd (decide (0<c.1.length))).trans ?_
    cases decide (0<c.1.length)<;>rfl
   ·rw[decide_eq_true (show(List.length c.2.2.1:Int)>0 by omega),decide_eq_false cf]
    exact ur _ _ _
theorem auY {N:Nat} {c:aO} {kf:aO→Bool→Option aa} (h:br c N) (h':br c (N - 40)) (hN:200<N) (hl:c.2.2.2.2.2.1.length+1<N):I23 N c kf=kf (dy c).1 (dy c).2:=by
 have hx:=aw
 have t1:=h'.tN
 have t2:=h'.jN
 have t3:=h'.tm
 have t4:=h'.jm
 have hj:=h.jb
 have htm:∀ x:aB,x∈c.1→x.met.length≤maxLen∧x.met.length+20<N:=fun x hx=>⟨(t3 x hx).1,by have:=(t3 x hx).2;omega⟩
 have xC:∀ x∈c.2.1,x.2.2.length≤maxLen∧x.2.2.length+20<N:=fun x hx=>⟨(t4 x hx).1,by have:=(t4 x hx).2;omega⟩
 have ur:cr c=false→dy c=(c,false):=fun hc=>by
  have hd:∀ out cO iF,e8 c out cO iF=false:=fun out cO iF=>by unfold e8;rw[hc];simp
  have hd2:∀ out cO iF,gw c out cO iF=c:=fun out cO iF=>by unfold gw;rw[hd];rfl
  unfold dy
  cases kQ c.1 with
  |none=>rfl
  |some ps=>
   simp only[]
   cases jk c.1 c.2.1 ps with
   |none=>rfl
   |some ss=>
    simp only[hd,hd2]
    cases nj c<;>rfl
 have ay4:nj c=false→dy c=(c,false):=fun hc=>by
  unfold dy
  cases kQ c.1 with
  |none=>rfl
  |some ps=>
   simp only[]
   cases jk c.1 c.2.1 ps with
   |none=>rfl
   |some ss=>
    simp only[hc]
    rfl
 unfold I23
 rw[nB h,Fs h]
 cases hc:cr c with
 |false=>rw[ur hc];rfl
 |true=>
  unfold I16
  show(bif decide ((List.length c.2.2.1:Int)>(0:Int)) then _ else _)=_
  by_cases cf:c.2.2.1.length=0
  rotate_left
  ·rw[decide_eq_true (show(List.length c.2.2.1:Int)>0 by omega),cond_true,ay4 (by unfold nj;rw[decide_eq_false cf];rfl)]
  rw[decide_eq_false (show ¬(List.length c.2.2.1:Int)>0 by omega),cond_false]
  by_cases h0:c.1.length=0
  ·have e:((List.length c.1:Int)==0)=true:=by simp[h0]
   rw[e,cond_true,ay4 (by unfold nj;rw[decide_eq_false (show ¬ 0<c.1.length by omega)];simp)]
  have e:((List.length c.1:Int)==0)=false:=by simp;intro q;exact h0 (by simp[q])
  have hmp:nj c=true:=by unfold nj;rw[decide_eq_true cf,decide_eq_true (show 0<c.1.length by omega)];rfl
  rw[e,cond_false,als h.tl htm (by omega) (by omega)]
  unfold C8 dy
  cases hr:kQ c.1 with
  |none=>
   simp only[]
   rw[W9 h.tl htm (by omega) (by omega) hj (by omega) xC (by simp)]
   unfold C8
   cases jk c.1 c.2.1 []<;>rfl
  |some ps=>
   obtain⟨l1,l2⟩:=FC hr
   simp only[]
   rw[W9 h.tl htm (by omega) (by omega) hj (by omega) xC (by omega)]
   unfold C8
   have e0:(decide ((List.length ps:Int)=(List.length ps:Int))&&decide ((0:Int)≤(List.length ps:Int))&&decide ((List.length ps:Int)≤1099511627776))=true:=by
    rw[decide_eq_true rfl,decide_eq_true (by omega),decide_eq_true (by omega)];rfl
   have e0t:(decide True&&decide ((0:Int)≤(List.length ps:Int))&&decide ((List.length ps:Int)≤1099511627776))=true:=by
    rw[decide_eq_true trivial,decide_eq_true (by omega),decide_eq_true (by omega)];rfl
   cases hs:jk c.1 c.2.1 ps with
   |none=>rfl
   |some ss=>
    have l3:=FF hs
    simp only[hmp,cond_true]
    first |rw[e0] |rw[e0t]
    simp only[cond_true,Bool.not_true,cond_false]
    exact sX (out:=NX c ps ss) h (NY h (by omega) (by omega) (by omega)) rfl hN hl
end Go.Pv.R
namespace Go.Pv.R
set_option linter.unusedVariables false
set_option linter.unusedSimpArgs false
def ofM (b:eW):Int:=bif decide (b.2.1>b.2.2) then 1 else 2
theorem HM (b:eW):ofM b=1∨ofM b=2:=by
 unfold ofM
 cases decide (b.2.1>b.2.2)<;>simp
theorem alu {N:Nat} {b:eW} {kf:Int→Option aa}:aab N b kf=kf (ofM b):=by
 unfold aab ofM
 cases decide (b.2.1>b.2.2)<;>rfl
theorem alv {N:Nat} {b:eW} {kf:Int→Option aa}:ZX N b kf=kf (ofM b):=by
 unfold ZX ofM
 cases decide (b.2.1>b.2.2)<;>rfl
theorem NZ {N:Nat} {b:eW} {kf:Bool→Option aa} (hN:2<N):SB N [b] kf=kf (b8 b):=by
 have hm:=aw
 unfold SB
 rw[aaQ (by simp;omega) (by simp;omega)]
 simp only[kF,Je]
 cases b8 b<;>rfl
theorem rV {N:Nat} {b:eW} {kf:Bool→Option aa} (hN:2<N):ZW N [b] kf=kf (b8 b):=by
 have hm:=aw
 unfold ZW
 rw[aap (by simp;omega) (by simp;omega)]
 simp only[kF,Jf]
 cases b8 b<;>rfl
def HN (b:eW) (k:Int):Int:=bif ofM b==k then 1 else 0
theorem aff {N:Nat} {b:eW} {k:Int} {kf:Int→Option aa} (hN:2<N) (hb:b8 b=true):aes N [b] k kf=kf (HN b k):=by
 have hm:=aw
 unfold aes HN
 rw[aaR (by simp;omega) (by simp;omega)]
 simp only[bR,NZ hN,hb,cond_true,alu]
 cases ofM b==k<;>rfl
theorem afg {N:Nat} {b:eW} {k:Int} {kf:Int→Option aa} (hN:2<N) (hb:b8 b=true):adY N [b] k kf=kf (HN b k):=by
 have hm:=aw
 unfold adY HN
 rw[rV hN,hb]
 simp only[Bool.not_true,cond_false]
 rw[aaq (by simp;omega) (by simp;omega)]
 simp only[bR,alv]
 cases ofM b==k<;>rfl
theorem N0 {N:Nat} {b:eW} {kf:Int→Option aa} {k:Int} (hN:2<N) (hb:b8 b=true):∃ r,∀ kf,Sj N [b] k kf=kf r:=by
 have hm:=aw
 by_cases h1:k=1
 ·subst h1
  refine⟨IntKind.wrap .i64 (0+b.2.1),fun kf=>?_⟩
  unfold Sj
  rw[rV hN,hb]
  simp only[Bool.not_true,cond_false]
  rw[AD (by simp;omega) (by simp;omega)]
  simp only[bR]
  rfl
 ·have e1:(k==(1:Int))=false:=by simpa using h1
  by_cases h2:k=2
  ·subst h2
   refine⟨IntKind.wrap .i64 (0+b.2.2),fun kf=>?_⟩
   unfold Sj
   rw[rV hN,hb]
   simp only[Bool.not_true,cond_false]
   rw[AD (by simp;omega) (by simp;omega)]
   simp only[bR]
   rfl
  ·have e2:(k==(2:Int))=false:=by simpa using h2
   refine⟨0,fun kf=>?_⟩
   unfold Sj
   rw[rV hN,hb]
   simp only[Bool.not_true,cond_false]
   rw[AD (by simp;omega) (by simp;omega)]
   simp only[bR,e1,e2,cond_false]
theorem afh {N:Nat} {b:eW} {kf:Int→Option aa} (hN:2<N) (hb:b8 b=true):aac N [b] kf=kf (ofM b):=by
 unfold aac
 have e:((List.length [b]:Int)==(0:Int))=false:=rfl
 rw[e,cond_false,NZ hN,hb]
 simp only[Bool.not_true,cond_false,aff hN hb]
 unfold HN
 rcases HM b with h |h<;>rw[h]<;>rfl
theorem afi {N:Nat} {b:eW} {kf:Int→Option aa} (hN:2<N) (hb:b8 b=true):ZY N [b] kf=kf (ofM b):=by
 unfold ZY
 have e:((List.length [b]:Int)==(0:Int))=false:=rfl
 obtain⟨r1,h1⟩:=N0 (N:=N) (b:=b) (kf:=kf) (k:=1) hN hb
 obtain⟨r2,h2⟩:=N0 (N:=N) (b:=b) (kf:=kf) (k:=2) hN hb
 rw[e,cond_false,rV hN,hb]
 simp only[Bool.not_true,cond_false,afg hN hb,h1,h2]
 unfold HN
 rcases HM b with h |h<;>rw[h]<;>rfl
def two {α:Type} (t:List α) (i j:Nat) (x y:α):List α:=(t.set i x).set j y
section
variable {α:Type} {t:List α} {i j:Nat} {x y x' y' z:α}
theorem xD:(two t i j x y).length=t.length:=by simp[two]
theorem N1 (h:i≠j) (hi:i<t.length):(two t i j x y).getD i z=x:=by
 rw[List.getD_eq_getElem?_getD,two,List.getElem?_set_ne (by omega),List.getElem?_set_self hi];rfl
theorem N3 (hj:j<t.length):(two t i j x y).getD j z=y:=by
 rw[List.getD_eq_getElem?_getD,two,List.getElem?_set_self (by simpa using hj)];rfl
theorem N4 (h:i≠j):(two t i j x y).set i x'=two t i j x' y:=by
 unfold two
 rw[List.set_comm _ _ (fun e=>h e.symm),List.set_set]
theorem N5:(two t i j x y).set j y'=two t i j x y':=by
 unfold two
 rw[List.set_set]
theorem N6 (h:i≠j):(t.set i x).getD j z=t.getD j z:=by
 rw[List.getD_eq_getElem?_getD,List.getElem?_set_ne (by omega),←List.getD_eq_getElem?_getD]
theorem Xa:(t.set i x).set j y=two t i j x y:=by rw[two]
end
def tw (t:List aB) (i:Nat) (b d p:Int):aB:=((t.getD i au).1,((t.getD i au).2.1,((bif d==1 then IntKind.wrap .i64 ((t.getD i au).2.2.1+1) else(t.getD i au).2.2.1),(IntKind.wrap .i64 ((t.getD i au).2.2.2.1+p),(IntKind.wrap .i64 ((t.getD i au).2.2.2.2.1+1),(t.getD i au).2.2.2.2.2++[b])))))
def kZ (t:List aB) (j:Nat) (a d q:Int):aB:=((t.getD j au).1,((t.getD j au).2.1,((bif d==1 then(t.getD j au).2.2.1 else IntKind.wrap .i64 ((t.getD j au).2.2.1+1)),(IntKind.wrap .i64 ((t.getD j au).2.2.2.1+q),((t.getD j au).2.2.2.2.1,(t.getD j au).2.2.2.2.2++[a])))))
def GN (t:List aB) (a b d p q:Int):List aB:=two t (aF t a).toNat (aF t b).toNat (tw t (aF t a).toNat b d p) (kZ t (aF t b).toNat a d q)
def Jn (t:List aB) (a b d p q:Int):Bool:=aG t&&(decide (aF t a≥0)&&(decide (aF t b≥0)&&((aF t a != aF t b)&&(gK d 1 2&&(gK p 0 1000&&gK q 0 1000)))))
def tR (t:List aB) (a b d p q:Int):Bool:=Jn t a b d p q&&aG (GN t a b d p q)
def Jo (t:List aB) (a b d p q:Int):List aB:=bif tR t a b d p q then GN t a b d p q else t
theorem rW {t:List aB} {a b d p q:Int} {N:Nat} (ha:aF t a≥0) (hb:aF t b≥0) (h:∀ x:aB,x∈t→x.met.length+1<N):∀ x:aB,x∈GN t a b d p q→x.met.length<N:=by
 intro x hx
 unfold GN two at hx
 rcases List.mem_or_eq_of_mem_set hx with hx |rfl
 ·rcases List.mem_or_eq_of_mem_set hx with hx |rfl
  ·have:=h x hx;omega
  ·have:=h _ (jh ha).1
   show((t.getD (aF t a).toNat au).2.2.2.2.2++[b]).length<N
   rw[List.length_append];exact this
 ·have:=h _ (jh hb).1
  show((t.getD (aF t b).toNat au).2.2.2.2.2++[a]).length<N
  rw[List.length_append];exact this
theorem alw {N:Nat} {t:List aB} {a b d p q:Int} {kf:List aB→Bool→Option aa} (hl:t.length≤1048700) (hm:∀ x:aB,x∈t→x.met.length≤1048700∧x.met.length+1<N) (hN:t.length<N):aad N t a b d p q kf=kf (Jo t a b d p q) (tR t a b d p q):=by
 have hx:=aw
 have hm1:∀ x∈t,x.met.length≤maxLen∧x.met.length<N:=fun x hx=>by have:=hm x hx;omega
 unfold aad Jo tR Jn
 rw[qc hl (fun x hx=>(hm x hx).1) hN,jf (by omega) hN,jf (by omega) hN,j8 (by omega) hm1 hN]
 simp only[lx]
 cases aG t with
 |false=>rfl
 |true=>
  by_cases ha:aF t a≥0
  rotate_left
  ·rw[decide_eq_true (show aF t a<0 by omega),decide_eq_false ha];rfl
  by_cases hb:aF t b≥0
  rotate_left
  ·rw[decide_eq_false (show ¬aF t a<0 by omega),decide_eq_true ha,decide_eq_true (show aF t b<0 by omega),decide_eq_false hb];rfl
  have hT:∀ x:aB,x∈GN t a b d p q→x.met.length<N:=rW ha hb fun x hx=>(hm x hx).2
  have hT2:∀ x:aB,x∈GN t a b d p q→x.met.length<1048800:=rW ha hb fun x hx=>by have:=(hm x hx).1;omega
  obtain⟨i,hi,ei,_⟩:=bW (p:=fun x:aB=>x.1==a) (l:=t) (by unfold aF at ha;omega)
  obtain⟨j,hj,ej,_⟩:=bW (p:=fun x:aB=>x.1==b) (l:=t) (by unfold aF at hb;omega)
  have ei:aF t a=(i:Int):=ei
  have ej:aF t b=(j:Int):=ej
  unfold GN at hT hT2 ⊢
  rw[ei,ej] at hT hT2 ⊢
  simp only[Int.toNat_natCast] at hT hT2 ⊢
  rw[decide_eq_true (show(i:Int)≥0 by omega),decide_eq_true (show(j:Int)≥0 by omega),decide_eq_false (show ¬(i:Int)<0 by omega),decide_eq_false (show ¬(j:Int)<0 by omega)]
  simp only[Bool.not_true,cond_false,Bool.true_and]
  by_cases uf:i=j
  ·subst uf;simp
  have e1:((i:Int)==(j:Int))=false:=by simpa using fun e=>uf (by omega)
  have e2:((i:Int) != (j:Int))=true:=by simp only[bne,e1];rfl
  rw[e1,e2]
  cases gK d 1 2 with
  |false=>rfl
  |true=>
  cases gK p 0 1000 with
  |false=>rfl
  |true=>
  cases gK q 0 1000 with
  |false=>rfl
  |true=>
  have li:=(hm _ (List.getElem_mem hi)).1
  have lj:=(hm _ (List.getElem_mem hj)).1
  have gi:t.getD i au=t[i]:=ai _ _ hi _
  have gj:t.getD j au=t[j]:=ai _ _ hj _
  have b1:decide ((List.length (t.getD i au).2.2.2.2.2+List.length [b])*1≤4398046511104)=true:=by rw[gi];exact decide_eq_true (by have:t[i].2.2.2.2.2.length≤1048700:=li;simp;omega)
  have b2:decide ((List.length (t.getD j au).2.2.2.2.2+List.length [a])*1≤4398046511104)=true:=by rw[gj];exact decide_eq_true (by have:t[j].2.2.2.2.2.length≤1048700:=lj;simp;omega)
  simp only[N6 uf,List.length_set,an hi,an hj,cond_true,cond_false,Bool.not_true,b1,b2,Nat.beq_refl,share,Xa,xD,N1 uf hi,N3 hj,N4 uf,N5,Bool.true_and]
  have hW:(two t i j (tw t i b d p) (kZ t j a d q)).length=t.length:=xD
  have key:Dk N t kf (two t i j (tw t i b d p) (kZ t j a d q))=kf (bif aG (two t i j (tw t i b d p) (kZ t j a d q)) then two t i j (tw t i b d p) (kZ t j a d q) else t) (aG (two t i j (tw t i b d p) (kZ t j a d q))):=by
   unfold Dk
   rw[j8 (by omega) (fun x hx=>⟨by have:=hT2 x hx;omega,hT x hx⟩) (by omega)]
   cases aG (two t i j (tw t i b d p) (kZ t j a d q)) with
   |false=>simp only[Bool.not_false,cond_true,cond_false];rw[qc hl (fun x hx=>(hm x hx).1) hN]
   |true=>rfl
  refine Eq.trans ?_ key
  unfold tw kZ
  cases d==1<;>rfl
theorem alx {N:Nat} {t:List aB} {a b d p q:Int} {kf:List aB→Bool→Option aa} (hl:t.length≤1048700) (hm:∀ x:aB,x∈t→x.met.length≤1048700∧x.met.length+1<N) (hN:t.length<N):ZZ N t a b d p q kf=kf (Jo t a b d p q) (tR t a b d p q):=by
 have hx:=aw
 have hm1:∀ x∈t,x.met.length≤maxLen∧x.met.length<N:=fun x hx=>by have:=hm x hx;omega
 unfold ZZ Jo tR Jn
 rw[Jk hl (fun x hx=>(hm x hx).1) hN,mn (by omega) hN,mn (by omega) hN,ly (by omega) hm1 hN]
 simp only[nf]
 cases aG t with
 |false=>rfl
 |true=>
  by_cases ha:aF t a≥0
  rotate_left
  ·rw[decide_eq_true (show aF t a<0 by omega),decide_eq_false ha];rfl
  by_cases hb:aF t b≥0
  rotate_left
  ·rw[decide_eq_false (show ¬aF t a<0 by omega),decide_eq_true ha,decide_eq_true (show aF t b<0 by omega),decide_eq_false hb];rfl
  have hT:∀ x:aB,x∈GN t a b d p q→x.met.length<N:=rW ha hb fun x hx=>(hm x hx).2
  have hT2:∀ x:aB,x∈GN t a b d p q→x.met.length<1048800:=rW ha hb fun x hx=>by have:=(hm x hx).1;omega
  obtain⟨i,hi,ei,_⟩:=bW (p:=fun x:aB=>x.1==a) (l:=t) (by unfold aF at ha;omega)
  obtain⟨j,hj,ej,_⟩:=bW (p:=fun x:aB=>x.1==b) (l:=t) (by unfold aF at hb;omega)
  have ei:aF t a=(i:Int):=ei
  have ej:aF t b=(j:Int):=ej
  unfold GN at hT hT2 ⊢
  rw[ei,ej] at hT hT2 ⊢
  simp only[Int.toNat_natCast] at hT hT2 ⊢
  rw[decide_eq_true (show(i:Int)≥0 by omega),decide_eq_true (show(j:Int)≥0 by omega),decide_eq_false (show ¬(i:Int)<0 by omega),decide_eq_false (show ¬(j:Int)<0 by omega)]
  simp only[Bool.not_true,cond_false,Bool.true_and]
  by_cases uf:i=j
  ·subst uf;simp
  have e1:((i:Int)==(j:Int))=false:=by simpa using fun e=>uf (by omega)
  have e2:((i:Int) != (j:Int))=true:=by simp only[bne,e1];rfl
  rw[e1,e2]
  cases gK d 1 2 with
  |false=>rfl
  |true=>
  cases gK p 0 1000 with
  |false=>rfl
  |true=>
  cases gK q 0 1000 with
  |false=>rfl
  |true=>
  have li:=(hm _ (List.getElem_mem hi)).1
  have lj:=(hm _ (List.getElem_mem hj)).1
  have gi:t.getD i au=t[i]:=ai _ _ hi _
  have gj:t.getD j au=t[j]:=ai _ _ hj _
  have b1:decide ((List.length (t.getD i au).2.2.2.2.2+List.length [b])*1≤4398046511104)=true:=by rw[gi];exact decide_eq_true (by have:t[i].2.2.2.2.2.length≤1048700:=li;simp;omega)
  have b2:decide ((List.length (t.getD j au).2.2.2.2.2+List.length [a])*1≤4398046511104)=true:=by rw[gj];exact decide_eq_true (by have:t[j].2.2.2.2.2.length≤1048700:=lj;simp;omega)
  have hnb:Nat.beq i j=false:=by
   cases h:Nat.beq i j with
   |false=>rfl
   |true=>exact absurd (Nat.eq_of_beq_eq_true h) uf
  have hW:(two t i j (tw t i b d p) (kZ t j a d q)).length=t.length:=xD
  have key:(As N (two t i j (tw t i b d p) (kZ t j a d q)) (fun(IX:Bool)=>
       bif (!IX) then
        RZ N t (fun(IY:(List QT))=>
         kf IY false)
       else
        kf (two t i j (tw t i b d p) (kZ t j a d q)) true))=kf (bif aG (two t i j (tw t i b d p) (kZ t j a d q)) then two t i j (tw t i b d p) (kZ t j a d q) else t) (aG (two t i j (tw t i b d p) (kZ t j a d q))):=by
   rw[ly (by omega) (fun x hx=>⟨by have:=hT2 x hx;omega,hT x hx⟩) (by omega)]
   cases aG (two t i j (tw t i b d p) (kZ t j a d q)) with
   |false=>simp only[Bool.not_false,cond_true,cond_false];rw[Jk hl (fun x hx=>(hm x hx).1) hN]
   |true=>rfl
  refine Eq.trans ?_ key
  simp only[IW,Int.toNat_natCast,hnb,Bool.not_false,Bool.and_true,N6 uf,List.length_set,an hi,an hj,cond_true,cond_false,Bool.not_true,b1,b2,Nat.beq_refl,share,Xa,xD,N1 uf hi,N3 hj,N4 uf,N5,Bool.true_and]
  unfold tw kZ
  cases d==1<;>rfl
end Go.Pv.R
namespace Go.Pv
set_option linter.unusedVariables false
theorem HO {α β:Type} {f:α→β} {p:β→Bool}:∀ (l:List α) (i:Nat),gJ p (l.map f) i=gJ (fun x=>p (f x)) l i
 |[],_=>rfl
 |x::r,i=>by
  simp only[List.map_cons,gJ,HO r]
theorem tS {α β:Type} {c:Nat→α→Bool} {f:Nat→α→β}:∀ (l:List α) (i:Nat),(j9 c f l i).length=0→∀ (j:Nat) (h:j<l.length),c (i+j) l[j]=false
 |[],i,_,j,h=>by simp at h
 |x::r,i,hl,j,h=>by
  simp only[j9] at hl
  cases hc:c i x with
  |true=>rw[hc] at hl;simp at hl
  |false=>
   rw[hc,cond_false] at hl
   cases j with
   |zero=>exact hc
   |succ j=>have:=tS r (i+1) hl j (by simpa using h);rw[show i+(j+1)=i+1+j by omega];exact this
theorem auZ {l:List Nat} {M:Nat} (h:∀ x∈l,x≤M):l.sum≤l.length*M:=by
 induction l with
 |nil=>simp
 |cons x r ih=>
  have h1:=ih fun y hy=>h y (by simp[hy])
  have h2:=h x (by simp)
  simp only[List.sum_cons,List.length_cons,Nat.succ_mul]
  omega
theorem Cw {t:Ty} {l:List t.I} {M:Nat} (h:∀ x∈l,ah t x≤M):ah (.sl t) l≤l.length+l.length*M:=by
 have:=auZ (l:=l.map (ah t)) (M:=M) (by
  intro y hy
  obtain⟨x,hx,rfl⟩:=List.mem_map.1 hy
  exact h x hx)
 rw[List.length_map] at this
 simp only[ah]
 omega
end Go.Pv
namespace Go.Pv.R
set_option linter.unusedVariables false
set_option linter.unusedSimpArgs false
theorem aa4 {l m:List aZ} {id:Int} (h:l.map (fun x:aZ=>x.1)=m.map fun x:aZ=>x.1):cB l id=cB m id:=by
 unfold cB fA
 have e:∀ l:List aZ,gJ (fun x:aZ=>x.1==id) l 0=gJ (fun y:Int=>y==id) (l.map fun x:aZ=>x.1) 0:=fun l=>(HO (f:=fun x:aZ=>x.1) (p:=fun y:Int=>y==id) l 0).symm
 rw[e l,e m,h]
theorem aly {s:List Int} {a b:Int} (h:Dn s):dm (kV (s++[a,b]))=kP (kP s a) b:=by
 obtain⟨h1,h2⟩:=GL (kV (s++[a,b])) (ae5 _)
 refine WO h1 (rP (rP h)) fun x=>?_
 rw[h2,aaX,xy,xy]
 simp only[List.mem_append,List.mem_cons,List.not_mem_nil,or_false]
 constructor
 ·rintro(h |h |h)<;>simp[h]
 ·rintro(h |h |h)<;>simp[h]
theorem FH {t:List aB} {a b d p q:Int} (h:tR t a b d p q=true):aF t a≥0∧aF t b≥0:=by
 unfold tR Jn at h
 simp only[Bool.and_eq_true,decide_eq_true_eq] at h
 exact⟨h.1.2.1,h.1.2.2.1⟩
theorem afj {t:List aB} {a b d p q:Int}:(Jo t a b d p q).length=t.length:=by
 unfold Jo
 cases tR t a b d p q with
 |false=>rfl
 |true=>exact xD
theorem afk {t:List aB} {a b d p q:Int} {M:Nat} (h:∀ x:aB,x∈t→x.met.length≤M):∀ x:aB,x∈Jo t a b d p q→x.met.length≤M+1:=by
 intro x hx
 unfold Jo at hx
 cases hb:tR t a b d p q with
 |false=>rw[hb,cond_false] at hx;have:=h x hx;omega
 |true=>
  rw[hb,cond_true] at hx
  have:=rW (N:=M+2) (FH hb).1 (FH hb).2 (fun x hx=>by have:=h x hx;omega) x hx
  omega
def afl (js:List aZ) (k:Nat) (a b:Int):List aZ:=js.set k ((js.getD k b9).1,((js.getD k b9).2.1,kP (kP (js.getD k b9).2.2 a) b))
theorem afm {js:List aZ} {k:Nat} {a b:Int} (hk:k<js.length):(afl js k a b).map (fun x:aZ=>x.1)=js.map fun x:aZ=>x.1:=by
 unfold afl
 rw[List.map_set]
 apply List.ext_getElem (by simp)
 intro i h1 h2
 rw[List.getElem_set]
 split
 ·rename_i e
  subst e
  rw[ai _ _ hk]
  simp
 ·rfl
theorem afn {js:List aZ} {k:Nat} {a b:Int} {M:Nat} (hk:k<js.length) (h:∀ x:aZ,x∈js→Dn x.2.2∧x.2.2.length≤M):∀ x:aZ,x∈afl js k a b→Dn x.2.2∧x.2.2.length≤M+2:=by
 intro x hx
 unfold afl at hx
 rcases List.mem_or_eq_of_mem_set hx with hx |rfl
 ·have:=h x hx;exact⟨this.1,by omega⟩
 ·have:=h (js.getD k b9) (by rw[ai _ _ hk];exact List.getElem_mem hk)
  have l1:=xz (js.getD k b9).2.2 a
  have l2:=xz (kP (js.getD k b9).2.2 a) b
  refine⟨rP (rP this.1),?_⟩
  show(kP (kP (js.getD k b9).2.2 a) b).length≤M+2
  omega
def tT (c:aO) (i:Nat):eW:=c.2.2.2.2.1.getD i fp
def dS (c:aO) (i:Nat):Int:=c.2.2.2.1.getD i 0
def Cx (c:aO) (i:Nat) (x:cq) (s:aO):Bool:=tR s.1 x.1 x.2 (ofM (tT c i)) (tT c i).2.1 (tT c i).2.2
def vf (c:aO) (i:Nat) (x:cq) (s:aO):aO:=(Jo s.1 x.1 x.2 (ofM (tT c i)) (tT c i).2.1 (tT c i).2.2,(afl s.2.1 (cB s.2.1 (dS c i)).toNat x.1 x.2,s.2.2))
def dI (c:aO):List cq→Nat→aO→Bool→aO×Bool
 |[],_,s,ok=>(s,ok)
 |x::r,i,s,ok=>dI c r (i+1) (vf c i x s) (ok&&Cx c i x s)
structure lA (c:aO):Prop where
 t10:c.1.length≤10
 tm:∀ x:aB,x∈c.1→x.met.length≤20
 j10:c.2.1.length≤10
 js:∀ x:aZ,x∈c.2.1→Dn x.2.2∧x.2.2.length≤99
 r10:c.2.2.1.length≤10
 sl:c.2.2.2.1.length=c.2.2.1.length
 bl:c.2.2.2.2.1.length=c.2.2.1.length
 sf:∀ i,i<c.2.2.1.length→cB c.2.1 (dS c i)≥0
 bb:∀ i,i<c.2.2.1.length→b8 (tT c i)=true
structure dq (c:aO) (i:Nat) (s:aO):Prop where
 tl:s.1.length=c.1.length
 tm:∀ x:aB,x∈s.1→x.met.length≤20+i
 ji:s.2.1.map (fun x:aZ=>x.1)=c.2.1.map fun x:aZ=>x.1
 js:∀ x:aZ,x∈s.2.1→Dn x.2.2∧x.2.2.length≤99+2*i
 re:s.2.2=c.2.2
theorem dq.au0 {c s:aO} {i:Nat} (h:dq c i s):s.2.1.length=c.2.1.length:=by
 have:=congrArg List.length h.ji
 simpa using this
theorem dq.fjd {c s:aO} {i:Nat} (h:dq c i s) (id:Int):cB s.2.1 id=cB c.2.1 id:=aa4 h.ji
theorem vg {c s:aO} {i:Nat} {x:cq} (hc:lA c) (hi:i<c.2.2.1.length) (h:dq c i s):dq c (i+1) (vf c i x s):=by
 have hf:=hc.sf i hi
 rw[←h.fjd] at hf
 have hk:=(rJ hf).2
 exact⟨by rw[←h.tl];exact afj,fun y hy=>by have:=afk h.tm y hy;omega,by rw[←h.ji];exact afm hk,fun y hy=>by have:=afn hk h.js y hy;exact⟨this.1,by omega⟩,h.re⟩
theorem vh {c:aO} (hc:lA c):∀ (r:List cq) (i:Nat) (s:aO) (ok:Bool),i+r.length=c.2.2.1.length→dq c i s→dq c c.2.2.1.length (dI c r i s ok).1
 |[],i,s,ok,h,hs=>by
  simp at h
  subst h
  exact hs
 |x::r,i,s,ok,h,hs=>by
  simp only[List.length_cons] at h
  exact vh hc r (i+1) _ _ (by omega) (vg hc (by omega) hs)
theorem xE {c:aO}:∀ (r:List cq) (i:Nat) (s:aO),(dI c r i s false).2=false
 |[],i,s=>rfl
 |x::r,i,s=>by
  unfold dI
  rw[Bool.false_and]
  exact xE r (i+1) _
theorem qz {N:Nat} {c:aO} {k:aO→Bool→Option aa} {body:Nat→cq→aO→Bool→(aO→Bool→Option aa)→Option aa}
  (hb:∀ (i:Nat) (x:cq) (s:aO) (ok:Bool) (next:aO→Bool→Option aa),i<c.2.2.1.length→dq c i s→body i x s ok next=next (vf c i x s) (ok&&Cx c i x s)) (hc:lA c):∀ (r:List cq) (i:Nat) (s:aO) (ok:Bool),i+r.length=c.2.2.1.length→dq c i s→ZN body k r i s ok=k (dI c r i s ok).1 (dI c r i s ok).2
 |[],i,s,ok,h,hs=>rfl
 |x::r,i,s,ok,h,hs=>by
  simp only[List.length_cons] at h
  simp only[ZN]
  rw[hb i x s ok _ (by omega) hs]
  exact qz (N:=N) hb hc r (i+1) _ _ (by omega) (vg hc (by omega) hs)
theorem qA {N:Nat} {c:aO} {k:aO→Option aa} {no:Option aa} {body:Nat→cq→aO→(aO→Option aa)→Option aa}
  (hb:∀ (i:Nat) (x:cq) (s:aO) (next:aO→Option aa),i<c.2.2.1.length→dq c i s→body i x s next=bif Cx c i x s then next (vf c i x s) else no) (hc:lA c):∀ (r:List cq) (i:Nat) (s:aO),i+r.length=c.2.2.1.length→dq c i s→bR body k r i s=bif (dI c r i s true).2 then k (dI c r i s true).1 else no
 |[],i,s,h,hs=>rfl
 |x::r,i,s,h,hs=>by
  simp only[List.length_cons] at h
  simp only[bR]
  rw[hb i x s _ (by omega) hs]
  unfold dI
  rw[Bool.true_and]
  cases Cx c i x s with
  |false=>rw[xE];rfl
  |true=>exact qA (N:=N) hb hc r (i+1) _ (by omega) (vg hc (by omega) hs)
theorem C9 {N:Nat} {c s:aO} {i:Nat} {x:cq} {next:aO→Bool→Option aa} {ok:Bool} (hc:lA c) (azZ:200<N) (hi:i<c.2.2.1.length) (h:dq c i s):
  (bif (aN (i:Int) (List.length c.2.2.2.2.1)) then
     aac N [(List.getD c.2.2.2.2.1 (Int.toNat (i:Int)) fp)] (fun(Fb:Int)=>
      aad N s.1 x.1 x.2 Fb (List.getD c.2.2.2.2.1 (Int.toNat (i:Int)) fp).2.1 (List.getD c.2.2.2.2.1 (Int.toNat (i:Int)) fp).2.2 (fun(rG:(List QT)) (ph:Bool)=>
       bif ok then
        bif (aN (i:Int) (List.length c.2.2.2.1)) then
         E7 N s.2.1 (List.getD c.2.2.2.1 (Int.toNat (i:Int)) (0:Int)) (fun(eT:Int)=>
          bif (aN eT (List.length s.2.1)) then
           u5 N (List.getD s.2.1 (Int.toNat eT) b9).2.2 x.1 (fun(Fe:(List Int))=>
            u5 N Fe x.2 (fun(xu:(List Int))=>
             bif (aN eT (List.length s.2.1)) then
              next (rG,((List.set s.2.1 (Int.toNat eT) ((List.getD s.2.1 (Int.toNat eT) b9).1,((List.getD s.2.1 (Int.toNat eT) b9).2.1,xu))),s.2.2)) ph
             else none))
          else none)
        else none
       else
        bif (aN (i:Int) (List.length c.2.2.2.1)) then
         E7 N s.2.1 (List.getD c.2.2.2.1 (Int.toNat (i:Int)) (0:Int)) (fun(eU:Int)=>
          bif (aN eU (List.length s.2.1)) then
           u5 N (List.getD s.2.1 (Int.toNat eU) b9).2.2 x.1 (fun(uP:(List Int))=>
            u5 N uP x.2 (fun(xv:(List Int))=>
             bif (aN eU (List.length s.2.1)) then
              next (rG,((List.set s.2.1 (Int.toNat eU) ((List.getD s.2.1 (Int.toNat eU) b9).1,((List.getD s.2.1 (Int.toNat eU) b9).2.1,xv))),s.2.2)) false
             else none))
          else none)
        else none))
    else none)=next (vf c i x s) (ok&&Cx c i x s):=by
 have hx:=aw
 have r10:=hc.r10
 have t10:=hc.t10
 have j10:=hc.j10
 have tl:=h.tl
 have jl:=h.au0
 have hf:=hc.sf i hi
 rw[←h.fjd] at hf
 obtain⟨f1,f2⟩:=rJ hf
 have eb:List.getD c.2.2.2.2.1 (Int.toNat (i:Int)) fp=tT c i:=rfl
 have es:List.getD c.2.2.2.1 (Int.toNat (i:Int)) (0:Int)=dS c i:=rfl
 have hj:=h.js (List.getD s.2.1 (cB s.2.1 (dS c i)).toNat b9) (by rw[ai _ _ f2];exact List.getElem_mem f2)
 have l1:=xz (List.getD s.2.1 (cB s.2.1 (dS c i)).toNat b9).2.2 x.1
 rw[eb,es,an (show i<c.2.2.2.2.1.length by rw[hc.bl];exact hi),an (show i<c.2.2.2.1.length by rw[hc.sl];exact hi),cond_true,afh (by omega) (hc.bb i hi),alw (by omega) (fun y hy=>by have:=h.tm y hy;omega) (by omega)]
 simp only[cond_true,WH (N:=N) (l:=s.2.1) (id:=dS c i) (by omega) (by omega),f1,WS (N:=N) (l:=(List.getD s.2.1 (cB s.2.1 (dS c i)).toNat b9).2.2) (n:=x.1) (by omega) (by omega),WS (N:=N) (l:=kP (List.getD s.2.1 (cB s.2.1 (dS c i)).toNat b9).2.2 x.1) (n:=x.2) (by omega) (by omega)]
 cases ok with
 |true=>rfl
 |false=>rfl
theorem C' {N:Nat} {c s:aO} {i:Nat} {x:cq} {next:aO→Option aa} {kf:aO→Bool→Option aa} (ho:br c N) (hc:lA c) (azZ:200<N) (hi:i<c.2.2.1.length) (h:dq c i s):
  (bif (aN (i:Int) (List.length c.2.2.2.2.1)) then
     ZY N [(List.getD c.2.2.2.2.1 (Int.toNat (i:Int)) fp)] (fun(EW:Int)=>
      ZZ N s.1 x.1 x.2 EW (List.getD c.2.2.2.2.1 (Int.toNat (i:Int)) fp).2.1 (List.getD c.2.2.2.2.1 (Int.toNat (i:Int)) fp).2.2 (fun(EX:(List QT)) (EY:Bool)=>
       bif (!EY) then
        IE N c (fun(EZ:QC)=>
         kf EZ false)
       else
        bif (aN (i:Int) (List.length c.2.2.2.1)) then
         Se N s.2.1 (List.getD c.2.2.2.1 (Int.toNat (i:Int)) (0:Int)) (fun(cT:Int)=>
          bif (aN cT (List.length s.2.1)) then
           bif (decide ((List.length (List.getD s.2.1 (Int.toNat cT) b9).2.2+List.length [x.1,x.2])*1≤4398046511104)) then
            Z0 N ((List.getD s.2.1 (Int.toNat cT) b9).2.2++[x.1,x.2]) (fun(E0:(List Int))=>
             ad4 N E0 (fun(E3:(List Int))=>
              bif (aN cT (List.length s.2.1)) then
               bif (Nat.beq (Int.toNat cT) (Int.toNat cT)) then
                next (EX,((List.set s.2.1 (Int.toNat cT) ((List.getD s.2.1 (Int.toNat cT) b9).1,((List.getD s.2.1 (Int.toNat cT) b9).2.1,E3))),s.2.2))
               else none
              else none))
           else none
          else none)
        else none))
    else none)=bif Cx c i x s then next (vf c i x s) else kf c false:=by
 have hx:=aw
 have r10:=hc.r10
 have t10:=hc.t10
 have j10:=hc.j10
 have tl:=h.tl
 have jl:=h.au0
 have hf:=hc.sf i hi
 rw[←h.fjd] at hf
 obtain⟨f1,f2⟩:=rJ hf
 have eb:List.getD c.2.2.2.2.1 (Int.toNat (i:Int)) fp=tT c i:=rfl
 have es:List.getD c.2.2.2.1 (Int.toNat (i:Int)) (0:Int)=dS c i:=rfl
 have hj:=h.js (List.getD s.2.1 (cB s.2.1 (dS c i)).toNat b9) (by rw[ai _ _ f2];exact List.getElem_mem f2)
 have ed:decide ((List.length (List.getD s.2.1 (cB s.2.1 (dS c i)).toNat b9).2.2+List.length [x.1,x.2])*1≤4398046511104)=true:=decide_eq_true (by simp only[List.length_cons,List.length_nil];omega)
 rw[eb,es,an (show i<c.2.2.2.2.1.length by rw[hc.bl];exact hi),an (show i<c.2.2.2.1.length by rw[hc.sl];exact hi),cond_true,afi (by omega) (hc.bb i hi),alx (by omega) (fun y hy=>by have:=h.tm y hy;omega) (by omega)]
 simp only[cond_true,nB ho,WI (N:=N) (l:=s.2.1) (id:=dS c i) (by omega) (by omega),f1,ed,Nat.beq_refl]
 rw[ak' (by simp only[List.length_append,List.length_cons,List.length_nil];omega),ala,aly hj.1]
 show(bif !Cx c i x s then kf c false else next (vf c i x s))=_
 cases Cx c i x s<;>rfl
end Go.Pv.R
namespace Go.Pv.R
set_option linter.unusedVariables false
set_option linter.unusedSimpArgs false
theorem N7 {s:List Int} (h:NJ s=true):Dn s∧s.length≤99:=by
 unfold NJ at h
 rw[fx] at h
 have step:∀ (i:Nat) (hi:i<s.length),(1≤s[i]∧s[i]≤99)∧(0<i→s.getD (i - 1) 0<s[i]):=fun i hi=>by
  have:=h i hi
  rw[Nat.zero_add] at this
  simp only[Bool.and_eq_true,Bool.or_eq_true,decide_eq_true_eq,Jh] at this
  exact⟨this.1,fun h0=>by omega⟩
 have mono:∀ (i:Nat) (hi:i<s.length) (j:Nat) (hj:j<i),s[j]'(by omega)<s[i]:=by
  intro i
  induction i with
  |zero=>intro hi j hj;omega
  |succ i ih=>
   intro hi j hj
   have h1:=(step (i+1) hi).2 (by omega)
   rw[Nat.add_sub_cancel,ai _ _ (show i<s.length by omega)] at h1
   rcases Nat.lt_or_eq_of_le (Nat.le_of_lt_succ hj) with h2 |rfl
   ·have:=ih (by omega) j h2;omega
   ·exact h1
 have ha:Dn s:=List.pairwise_iff_getElem.2 fun j i hj hi la=>mono i hi j la
 refine⟨ha,?_⟩
 have hn:s.Nodup:=ha.imp fun h=>by omega
 have:=ou s ((List.range 100).map fun n:Nat=>(n:Int)) hn fun x hx=>by
  obtain⟨i,hi,rfl⟩:=List.mem_iff_getElem.1 hx
  have:=(step i hi).1
  exact List.mem_map.2 ⟨s[i].toNat,by rw[List.mem_range];omega,by omega⟩
 have h0:(0:Int)∉s:=fun hc=>by
  obtain⟨i,hi,e⟩:=List.mem_iff_getElem.1 hc
  have:=(step i hi).1
  omega
 have:=ou (0::s) ((List.range 100).map fun n:Nat=>(n:Int)) (List.nodup_cons.2 ⟨h0,hn⟩) fun x hx=>by
  rcases List.mem_cons.1 hx with rfl |hx
  ·exact List.mem_map.2 ⟨0,by simp,rfl⟩
  ·obtain⟨i,hi,rfl⟩:=List.mem_iff_getElem.1 hx
   have:=(step i hi).1
   exact List.mem_map.2 ⟨s[i].toNat,by rw[List.mem_range];omega,by omega⟩
 simp only[List.length_cons,List.length_map,List.length_range] at this
 omega
theorem Xb {c:aO} (hc:cr c=true) (hr:c.2.2.1.length≠0) (hw:(bu c).length=0):lA c:=by
 obtain⟨l1,l2⟩:=ng hc
 unfold cr at hc
 simp only[Bool.and_eq_true,Bool.or_eq_true,decide_eq_true_eq] at hc
 obtain⟨ht,hj,_,_,_,hs,hb,_⟩:=hc
 have hs:jg c.1 c.2.2.1=true∧dH c.1 c.2.1 c.2.2.1 c.2.2.2.1=true:=hs.resolve_left hr
 obtain⟨_,hs⟩:=hs
 unfold dH at hs
 simp only[Bool.and_eq_true,decide_eq_true_eq] at hs
 obtain⟨_,_,hs⟩:=hs
 rw[fx] at hs
 unfold aG at ht
 simp only[Bool.and_eq_true,decide_eq_true_eq] at ht
 obtain⟨t10,htp,_⟩:=ht
 unfold bT at hj
 simp only[Bool.and_eq_true,decide_eq_true_eq] at hj
 obtain⟨j10,hjp⟩:=hj
 rw[fx] at htp hjp hb
 have sP:∀ i,i<c.2.2.1.length→cB c.2.1 (dS c i)≥0∧lz (c.2.2.2.1.take i) (dS c i)=false:=fun i hi=>by
  have:=hs i hi
  rw[Nat.zero_add] at this
  unfold rK at this
  simp only[Bool.and_eq_true,decide_eq_true_eq,Bool.not_eq_true'] at this
  exact⟨this.1,this.2.1⟩
 have hn:c.2.2.2.1.Nodup:=List.pairwise_iff_getElem.2 fun i j hi hj uf e=>by
  have h1:=(sP j (by omega)).2
  have h2:lz (c.2.2.2.1.take j) (dS c j)=true:=by
   rw[mq]
   unfold dS
   rw[ai _ _ hj,←e]
   exact List.mem_iff_getElem.2 ⟨i,by rw[List.length_take];omega,by rw[List.getElem_take]⟩
  rw[h1] at h2
  cases h2
 have hle:=ou c.2.2.2.1 (c.2.1.map fun x:aZ=>x.1) hn fun x hx=>by
  obtain⟨i,hi,rfl⟩:=List.mem_iff_getElem.1 hx
  have h1:=(sP i (by omega)).1
  unfold dS at h1
  rw[ai _ _ hi] at h1
  obtain⟨k,hk,e,h2,_⟩:=bW (p:=fun x:aZ=>x.1==c.2.2.2.1[i]) (l:=c.2.1) (by unfold cB at h1;omega)
  exact List.mem_map.2 ⟨c.2.1[k],List.getElem_mem hk,by simpa using h2⟩
 rw[List.length_map] at hle
 refine⟨t10,fun x hx=>?_,j10,fun x hx=>?_,by omega,l1,l2,fun i hi=>(sP i hi).1,fun i hi=>?_⟩
 ·obtain⟨i,hi,rfl⟩:=List.mem_iff_getElem.1 hx
  have:=htp i hi
  unfold jz at this
  simp only[Bool.and_eq_true,decide_eq_true_eq] at this
  exact this.2.2.2.2.2.1
 ·obtain⟨i,hi,rfl⟩:=List.mem_iff_getElem.1 hx
  have:=hjp i hi
  unfold nA at this
  simp only[Bool.and_eq_true,decide_eq_true_eq] at this
  exact N7 this.2.2.2
 ·have mF:i<c.2.2.2.2.1.length:=by omega
  have h1:=tS c.2.2.2.2.1 0 hw i mF
  have h2:=hb i mF
  rw[Nat.zero_add] at h2
  unfold ka at h2
  simp only[h1,Bool.false_or,Bool.and_eq_true] at h2
  unfold tT
  rw[ai _ _ mF]
  exact h2.1
def SQ (c s:aO):aO:=(s.1,(s.2.1,([],([],([],(s.2.2.2.2.2.1,IntKind.wrap .i64 (c.2.2.2.2.2.2+(List.length c.2.2.1:Int))))))))
def FJ (c:aO):Bool:=cr c&&(decide (c.2.2.1.length≠0)&&decide ((bu c).length=0))
def iq (c:aO):aO×Bool:=bif FJ c&&(dI c c.2.2.1 0 c true).2 then(gw c (SQ c (dI c c.2.2.1 0 c true).1) 5 0,e8 c (SQ c (dI c c.2.2.1 0 c true).1) 5 0) else(c,false)
theorem s5 {c:aO} (hc:lA c):dq c 0 c:=⟨rfl,fun x hx=>by have:=hc.tm x hx;omega,rfl,fun x hx=>by have:=hc.js x hx;exact⟨this.1,by omega⟩,rfl⟩
theorem Xc {c s:aO} {N:Nat} (h:br c N) (hc:lA c) (hs:dq c c.2.2.1.length s) (hN:200<N):br (SQ c s) N:=by
 have hx:=aw
 have r10:=hc.r10
 have t10:=hc.t10
 have j10:=hc.j10
 have tl:=hs.tl
 have jl:=hs.au0
 have ht:∀ x:aB,x∈s.1→x.met.length≤40:=fun x hx=>by have:=hs.tm x hx;omega
 have hj:∀ x:aZ,x∈s.2.1→x.2.2.length≤140:=fun x hx=>by have:=(hs.js x hx).2;omega
 have hre:s.2.2.2.2.2.1=c.2.2.2.2.2.1:=by rw[hs.re]
 exact⟨by show s.1.length≤_;omega,fun x hx=>⟨by have:=ht x hx;omega,by have:=ht x hx;omega⟩,by show s.1.length<_;omega,by show s.2.1.length≤_;omega,fun x hx=>⟨by have:=hj x hx;omega,by have:=hj x hx;omega⟩,by show s.2.1.length<_;omega,by show 0≤_;omega,by show 2*0<_;omega,by show 0≤_;omega,by show 0<_;omega,by show 0≤_;omega,by show 0<_;omega,by show s.2.2.2.2.2.1.length≤_;rw[hre];exact h.ml,by show s.2.2.2.2.2.1.length<_;rw[hre];exact h.mN,h.n8,by show s.1.length≤_;omega,fun x hx=>by have:=ht x hx;omega,by show s.2.1.length≤_;omega,fun x hx=>by have:=hj x hx;omega⟩
theorem Ds (n:Nat):decide ((n:Int)>(0:Int))=!decide (n=0):=by
 by_cases h:n=0
 ·rw[decide_eq_false (by omega),decide_eq_true h];rfl
 ·rw[decide_eq_true (by omega),decide_eq_false h];rfl
theorem au1 {N:Nat} {c:aO} {kf:aO→Bool→Option aa} (h:br c N) (hN:200<N) (hl:c.2.2.2.2.2.1.length+1<N):S27 N c kf=kf (iq c).1 (iq c).2:=by
 have hx:=aw
 have hr:=h.rl
 have hr2:=h.rN
 unfold S27 iq FJ
 rw[rL h,Dl h]
 cases hc:cr c with
 |false=>rfl
 |true=>
  simp only[Bool.not_true,cond_false,Bool.true_and]
  unfold S94
  rw[Ds]
  by_cases cf:c.2.2.1.length=0
  ·rw[decide_eq_true cf,decide_eq_false (fun e=>e cf)];rfl
  ·rw[decide_eq_false cf,decide_eq_true cf]
   simp only[Bool.not_true,Bool.not_false,cond_false,Bool.true_and]
   rw[ak0 h,Ds]
   by_cases hw:(bu c).length=0
   rotate_left
   ·rw[decide_eq_false hw];rfl
   ·rw[decide_eq_true hw]
    have ho:=Xb hc cf hw
    have hi:=vh ho c.2.2.1 0 c true (by omega) (s5 ho)
    simp only[Bool.not_true,cond_false,Bool.true_and]
    rw[aeU (by omega) (by omega),qz (N:=N) (c:=c) (fun i x s ok next hi hs=>C9 ho hN hi hs) ho c.2.2.1 0 c true (by omega) (s5 ho)]
    refine(va (out:=SQ c (dI c c.2.2.1 0 c true).1) h (fun _=>Xc h ho hi hN) hN hl).trans ?_
    cases (dI c c.2.2.1 0 c true).2<;>rfl
theorem au2 {N:Nat} {c:aO} {kf:aO→Bool→Option aa} (h:br c N) (hN:200<N) (hl:c.2.2.2.2.2.1.length+1<N):I28 N c kf=kf (iq c).1 (iq c).2:=by
 have hx:=aw
 have hr:=h.rl
 have hr2:=h.rN
 unfold I28 iq FJ
 rw[nB h,Fs h]
 cases hc:cr c with
 |false=>rfl
 |true=>
  simp only[Bool.not_true,cond_false,Bool.true_and]
  unfold I16
  rw[Ds]
  by_cases cf:c.2.2.1.length=0
  ·rw[decide_eq_true cf,decide_eq_false (fun e=>e cf)];rfl
  ·rw[decide_eq_false cf,decide_eq_true cf]
   simp only[Bool.not_true,Bool.not_false,cond_false,Bool.true_and]
   rw[auP h,Ds]
   by_cases hw:(bu c).length=0
   rotate_left
   ·rw[decide_eq_false hw]
    rfl
   ·rw[decide_eq_true hw]
    have ho:=Xb hc cf hw
    have hi:=vh ho c.2.2.1 0 c true (by omega) (s5 ho)
    simp only[Bool.not_true,cond_false,Bool.true_and]
    rw[nB h,aeM (by omega) (by omega),qA (N:=N) (c:=c) (no:=kf c false) (fun i x s next hi hs=>C' h ho hN hi hs) ho c.2.2.1 0 c (by omega) (s5 ho)]
    cases iw:(dI c c.2.2.1 0 c true).2 with
    |false=>rfl
    |true=>
     have hre:(dI c c.2.2.1 0 c true).1.2.2=c.2.2:=hi.re
     have e2:((dI c c.2.2.1 0 c true).1.1,((dI c c.2.2.1 0 c true).1.2.1,(([]:List a7),(([]:List Int),(([]:List QB),((dI c c.2.2.1 0 c true).1.2.2.2.2.2.1,(IntKind.wrap .i64 ((dI c c.2.2.1 0 c true).1.2.2.2.2.2.2+(List.length c.2.2.1:Int)))))))))=SQ c (dI c c.2.2.1 0 c true).1:=by
      unfold SQ
      rw[hre]
     simp only[cond_true]
     rw[e2]
     exact sX (out:=SQ c (dI c c.2.2.1 0 c true).1) h (Xc h ho hi hN) (by show(dI c c.2.2.1 0 c true).1.2.2.2.2.2.1=_;rw[hre]) hN hl
end Go.Pv.R
namespace Go.Pv.R
set_option linter.unusedVariables false
set_option linter.unusedSimpArgs false
structure Small (c:aO):Prop where
 t10:c.1.length≤10
 tm:∀ x:aB,x∈c.1→x.met.length≤20
 j10:c.2.1.length≤10
 js:∀ x:aZ,x∈c.2.1→x.2.2.length≤99
 r10:c.2.2.1.length≤10
 s10:c.2.2.2.1.length≤10
 b10:c.2.2.2.2.1.length≤10
 ay5:c.2.2.2.2.2.1.length≤200
theorem afo {c:aO} (hc:cr c=true):Small c:=by
 obtain⟨l1,l2⟩:=ng hc
 unfold cr at hc
 simp only[Bool.and_eq_true,Bool.or_eq_true,decide_eq_true_eq] at hc
 obtain⟨ht,hj,hm,_,_,hs,hb,_⟩:=hc
 unfold gY at hm
 simp only[Bool.and_eq_true,decide_eq_true_eq] at hm
 unfold aG at ht
 simp only[Bool.and_eq_true,decide_eq_true_eq] at ht
 obtain⟨t10,htp,_⟩:=ht
 unfold bT at hj
 simp only[Bool.and_eq_true,decide_eq_true_eq] at hj
 obtain⟨j10,hjp⟩:=hj
 rw[fx] at htp hjp
 have r10:c.2.2.1.length≤10:=by
  rcases hs with hs |hs
  ·omega
  ·have hs:dH c.1 c.2.1 c.2.2.1 c.2.2.2.1=true:=hs.2
   unfold dH at hs
   simp only[Bool.and_eq_true,decide_eq_true_eq] at hs
   obtain⟨_,_,hs⟩:=hs
   rw[fx] at hs
   have sP:∀ i,i<c.2.2.1.length→cB c.2.1 (dS c i)≥0∧lz (c.2.2.2.1.take i) (dS c i)=false:=fun i hi=>by
    have:=hs i hi
    rw[Nat.zero_add] at this
    unfold rK at this
    simp only[Bool.and_eq_true,decide_eq_true_eq,Bool.not_eq_true'] at this
    exact⟨this.1,this.2.1⟩
   have hn:c.2.2.2.1.Nodup:=List.pairwise_iff_getElem.2 fun i j hi hj uf e=>by
    have h1:=(sP j (by omega)).2
    have h2:lz (c.2.2.2.1.take j) (dS c j)=true:=by
     rw[mq]
     unfold dS
     rw[ai _ _ hj,←e]
     exact List.mem_iff_getElem.2 ⟨i,by rw[List.length_take];omega,by rw[List.getElem_take]⟩
    rw[h1] at h2
    cases h2
   have hle:=ou c.2.2.2.1 (c.2.1.map fun x:aZ=>x.1) hn fun x hx=>by
    obtain⟨i,hi,rfl⟩:=List.mem_iff_getElem.1 hx
    have h1:=(sP i (by omega)).1
    unfold dS at h1
    rw[ai _ _ hi] at h1
    obtain⟨k,hk,e,h2,_⟩:=bW (p:=fun x:aZ=>x.1==c.2.2.2.1[i]) (l:=c.2.1) (by unfold cB at h1;omega)
    exact List.mem_map.2 ⟨c.2.1[k],List.getElem_mem hk,by simpa using h2⟩
   rw[List.length_map] at hle
   omega
 refine⟨t10,fun x hx=>?_,j10,fun x hx=>?_,r10,by omega,by omega,hm.1⟩
 ·obtain⟨i,hi,rfl⟩:=List.mem_iff_getElem.1 hx
  have:=htp i hi
  unfold jz at this
  simp only[Bool.and_eq_true,decide_eq_true_eq] at this
  exact this.2.2.2.2.2.1
 ·obtain⟨i,hi,rfl⟩:=List.mem_iff_getElem.1 hx
  have:=hjp i hi
  unfold nA at this
  simp only[Bool.and_eq_true,decide_eq_true_eq] at this
  exact(N7 this.2.2.2).2
theorem Small.szC {c:aO} (h:Small c):ah bY c≤2000:=by
 have h1:=u9 c
 have t10:=h.t10
 have j10:=h.j10
 have r10:=h.r10
 have s10:=h.s10
 have b10:=h.b10
 have ay5:=h.ay5
 have b1:=Cw (t:=bj) (l:=c.1) (M:=20) (fun x hx=>by
  have h2:ah bj x=ah (.sl (.int .i64)) x.2.2.2.2.2:=by simp[ah]
  have h3:ah (.sl (.int .i64)) x.2.2.2.2.2=(x.2.2.2.2.2).length:=gI (t:=.int .i64) (by decide) _
  have:x.2.2.2.2.2.length≤20:=h.tm x hx
  omega)
 have b2:=Cw (t:=bS) (l:=c.2.1) (M:=99) (fun x hx=>by
  have h2:ah bS x=ah (.sl (.int .i64)) x.2.2:=by simp[ah]
  have h3:ah (.sl (.int .i64)) x.2.2=(x.2.2).length:=gI (t:=.int .i64) (by decide) _
  have:=h.js x hx
  omega)
 have m1:c.1.length*20≤10*20:=Nat.mul_le_mul_right _ (by omega)
 have m2:c.2.1.length*99≤10*99:=Nat.mul_le_mul_right _ (by omega)
 have e3:ah (.sl aM) c.2.2.1=c.2.2.1.length:=gI (t:=aM) (by decide) _
 have e4:ah (.sl (.int .i64)) c.2.2.2.1=c.2.2.2.1.length:=gI (t:=.int .i64) (by decide) _
 have e5:ah (.sl de) c.2.2.2.2.1=c.2.2.2.2.1.length:=gI (t:=de) (by decide) _
 have e6:ah (.sl df) c.2.2.2.2.2.1=c.2.2.2.2.2.1.length:=gI (t:=df) (by decide) _
 omega
structure au3 (c:aO) (N:Nat):Prop where
 ok:br c N
 ok':br c (N - 40)
 tb:c.1.length≤1048576
 tN:c.1.length+1<N
 jb:c.2.1.length≤1048576
 jN:c.2.1.length+1<N
 mN:c.2.2.2.2.2.1.length+1<N
 N2:200<N
def onB (b:Bool) (c:aO) (r:aO×Bool):aO×Bool:=bif b then r else(c,false)
def qB (c out:aO) (cO iF:Int):aO×Bool:=(gw c out cO iF,e8 c out cO iF)
def ir (c:aO) (e:QL):aO×Bool:=
 bif e.1==1 then onB (decide (c.2.2.1.length=0)) c (qB c (nh c e.2.1 e.2.2.1) 1 e.2.1)
 else bif e.1==2 then qB c (jS c e.2.1 e.2.2.1) 2 e.2.1
 else bif e.1==3 then dy c
 else bif e.1==4 then onB (xx c e.2.2.2 e.2.1 e.2.2.1) c (qB c (tP c e.2.2.2 e.2.1 e.2.2.1) 4 (rO c e.2.2.2 e.2.1 e.2.2.1).1)
 else bif e.1==5 then iq c
 else bif e.1==6 then onB (rQ c e.2.1) c (qB c (qe c e.2.1) 6 e.2.1)
 else(c,false)
theorem HP {b:Bool} {c:aO} {r:aO×Bool} {k:aO→Bool→Option aa}:(bif b then k r.1 r.2 else k c false)=k (onB b c r).1 (onB b c r).2:=by
 unfold onB
 cases b<;>rfl
theorem au4 {N:Nat} {c:aO} {e:QL} {kf:aO→Bool→Option aa} (h:au3 c N):S60 N c e kf=kf (ir c e).1 (ir c e).2:=by
 unfold S60 ir
 cases e.1==1
 rotate_left
 ·exact(ale h.ok h.tb h.tN h.N2 h.mN).trans (HP (c:=c) (r:=qB c (nh c e.2.1 e.2.2.1) 1 e.2.1) (k:=kf))
 cases e.1==2
 rotate_left
 ·exact alg h.ok h.jb h.jN h.N2 h.mN
 cases e.1==3
 rotate_left
 ·exact auX h.ok h.ok' h.N2 h.mN
 cases e.1==4
 rotate_left
 ·exact(ak9 h.ok h.N2 h.mN).trans (HP (c:=c) (r:=qB c (tP c e.2.2.2 e.2.1 e.2.2.1) 4 (rO c e.2.2.2 e.2.1 e.2.2.1).1) (k:=kf))
 cases e.1==5
 rotate_left
 ·exact au1 h.ok h.N2 h.mN
 cases e.1==6
 rotate_left
 ·exact(alb h.ok h.N2 h.mN).trans (HP (c:=c) (r:=qB c (qe c e.2.1) 6 e.2.1) (k:=kf))
 ·simp only[cond_false]
  rw[rL h.ok]
theorem au5 {N:Nat} {c:aO} {e:QL} {kf:aO→Bool→Option aa} (h:au3 c N):I13 N c e kf=kf (ir c e).1 (ir c e).2:=by
 unfold I13 ir
 cases e.1==1
 rotate_left
 ·exact(auS h.ok h.tb h.tN h.N2 h.mN).trans (HP (c:=c) (r:=qB c (nh c e.2.1 e.2.2.1) 1 e.2.1) (k:=kf))
 cases e.1==2
 rotate_left
 ·exact auT h.ok h.jb h.jN h.N2 h.mN
 cases e.1==3
 rotate_left
 ·exact auY h.ok h.ok' h.N2 h.mN
 cases e.1==4
 rotate_left
 ·exact(auQ h.ok h.N2 h.mN).trans (HP (c:=c) (r:=qB c (tP c e.2.2.2 e.2.1 e.2.2.1) 4 (rO c e.2.2.2 e.2.1 e.2.2.1).1) (k:=kf))
 cases e.1==5
 rotate_left
 ·exact au2 h.ok h.N2 h.mN
 cases e.1==6
 rotate_left
 ·exact(auR h.ok h.N2 h.mN).trans (HP (c:=c) (r:=qB c (qe c e.2.1) 6 e.2.1) (k:=kf))
 ·simp only[cond_false]
  rw[nB h.ok]
def Kept (c:aO) (r:aO×Bool):Prop:=(r.1=c∧r.2=false)∨(cr r.1=true∧r.2=true)
theorem jT (c out:aO) (cO iF:Int):Kept c (qB c out cO iF):=by
 unfold qB Kept gw
 cases hd:e8 c out cO iF with
 |false=>exact .inl ⟨rfl,rfl⟩
 |true=>
  unfold e8 at hd
  simp only[Bool.and_eq_true] at hd
  exact .inr ⟨hd.2.2,rfl⟩
theorem rX {b:Bool} {c:aO} {r:aO×Bool} (h:Kept c r):Kept c (onB b c r):=by
 unfold onB
 cases b with
 |false=>exact .inl ⟨rfl,rfl⟩
 |true=>exact h
theorem N8 (c:aO) (e:QL):Kept c (ir c e):=by
 unfold ir
 cases e.1==1
 rotate_left
 ·exact rX (jT _ _ _ _)
 cases e.1==2
 rotate_left
 ·exact jT _ _ _ _
 cases e.1==3
 rotate_left
 ·show Kept c (dy c)
  unfold dy
  cases kQ c.1 with
  |none=>exact .inl ⟨rfl,rfl⟩
  |some ps=>
   simp only[]
   cases jk c.1 c.2.1 ps with
   |none=>exact .inl ⟨rfl,rfl⟩
   |some ss=>exact rX (jT _ _ _ _)
 cases e.1==4
 rotate_left
 ·exact rX (jT _ _ _ _)
 cases e.1==5
 rotate_left
 ·exact rX (jT _ _ _ _)
 cases e.1==6
 rotate_left
 ·exact rX (jT _ _ _ _)
 ·exact .inl ⟨rfl,rfl⟩
theorem alz {c:aO} {N:Nat} (hw:wf bY c) (hb:ah bY c≤1048576) (hN:2*ah bY c+300<N):au3 c N:=by
 have Ma:=u9 c
 have h1:=aT (t:=df) c.2.2.2.2.2.1
 have h2:=aT (t:=bj) c.1
 have h3:=aT (t:=bS) c.2.1
 exact⟨WM hw hb (by omega),WM hw hb (by omega),by omega,by omega,by omega,by omega,by omega,by omega⟩
end Go.Pv.R
namespace Go.Pv.R
set_option linter.unusedVariables false
set_option linter.unusedSimpArgs false
end Go.Pv.R
namespace Go.Pv.R
set_option linter.unusedVariables false
set_option linter.unusedSimpArgs false
end Go.Pv.R
namespace Go.Pv.R
set_option linter.unusedVariables false
set_option linter.unusedSimpArgs false
end Go.Pv.R
namespace Go.Pv.R
set_option linter.unusedVariables false
set_option linter.unusedSimpArgs false
end Go.Pv.R
namespace Go.Pv.R
set_option linter.unusedVariables false
set_option linter.unusedSimpArgs false
end Go.Pv.R
namespace Go.Pv.R
set_option linter.unusedVariables false
set_option linter.unusedSimpArgs false
end Go.Pv.R
namespace Go.Pv.R
set_option linter.unusedVariables false
set_option linter.unusedSimpArgs false
end Go.Pv.R
namespace Go.Pv.R
set_option linter.unusedVariables false
set_option linter.unusedSimpArgs false
end Go.Pv.R
namespace Go.Pv.R
set_option linter.unusedVariables false
set_option linter.unusedSimpArgs false
abbrev Cur:=uH
def Xd (c:Cur):Prop:=0≤c.2.1∧c.1.length≤1048576
def afp {α:Type} (F:Cur→(α→Cur→Option aa)→Option aa) (P:α→Prop):Prop:=∀ c:Cur,Xd c→∃ v,∃ c':Cur,Xd c'∧P v∧∀ kf,F c kf=kf v c'
theorem afq (x:BitVec (IntKind.bits .i64)):0≤IntKind.wrap .i64 (BitVec.toNat (x&&&BitVec.ofInt (IntKind.bits .i64) (255:Int)))∧IntKind.wrap .i64 (BitVec.toNat (x&&&BitVec.ofInt (IntKind.bits .i64) (255:Int)))≤255:=by
 have h:BitVec.toNat (x&&&BitVec.ofInt (IntKind.bits .i64) (255:Int))≤255:=by
  rw[BitVec.toNat_and]
  refine Nat.le_trans Nat.and_le_right ?_
  decide
 rw[wrap64 (by omega) (by omega)]
 omega
theorem Jp {N:Nat}:afp (iA N) fun v=>0≤v∧v≤255:=fun c hc=>by
 obtain⟨hc,hl⟩:=hc
 unfold iA share
 rw[decide_eq_true (show(0:Int)≤33 by omega),decide_eq_true (show(0:Int)≤47 by omega)]
 simp only[cond_true]
 by_cases hi:c.2.1<(List.length c.1:Int)
 ·have eX:aN c.2.1 (List.length c.1)=true:=by
   have:=an (i:=c.2.1.toNat) (m:=c.1.length) (by omega)
   rwa [Int.toNat_of_nonneg hc] at this
  rw[decide_eq_true hi,eX]
  simp only[cond_true]
  refine⟨_,(c.1,(IntKind.wrap .i64 (c.2.1+1),_)),⟨?_,hl⟩,afq _,fun kf=>rfl⟩
  show 0≤IntKind.wrap .i64 (c.2.1+1)
  rw[wrap64 (by omega) (by omega)]
  omega
 ·rw[decide_eq_false hi]
  simp only[cond_false]
  exact⟨_,(c.1,(c.2.1,IntKind.wrap .i64 (IntKind.wrap .i64 (c.2.2*(6364136223846793005:Int))+(1442695040888963407:Int)))),⟨hc,hl⟩,afq _,fun kf=>rfl⟩
theorem alA {r n:Int} (hr:0≤r) (hn:0<n):0≤Int.tmod r n∧Int.tmod r n<n:=by
 rw[Int.tmod_eq_emod_of_nonneg hr]
 exact⟨Int.emod_nonneg _ (by omega),Int.emod_lt_of_pos _ hn⟩
theorem GO {N:Nat} {n:Int} (h0:0<n) (h1:n≤256):afp (fun c kf=>lg N c n kf) fun v=>0≤v∧v<n:=fun c hc=>by
 obtain⟨v,c',h2,h3,h4⟩:=Jp (N:=N) c hc
 refine⟨Int.tmod v n,c',h2,alA h3.1 h0,fun kf=>?_⟩
 show lg N c n kf=_
 unfold lg
 rw[decide_eq_false (by omega),decide_eq_true h1]
 simp only[cond_true,cond_false]
 rw[h4,decide_eq_false (by omega)]
 rfl
theorem Jq {N:Nat} {n:Int} (h0:0<n) (h1:n≤256):afp (fun c kf=>Cr N c n kf) fun _=>True:=fun c hc=>by
 obtain⟨v,c',h2,h3,h4⟩:=GO (N:=N) h0 h1 c hc
 exact⟨_,c',h2,trivial,fun kf=>h4 _⟩
end Go.Pv.R
namespace Go.Pv.R
set_option linter.unusedVariables false
set_option linter.unusedSimpArgs false
end Go.Pv.R
namespace Go.Pv.R
set_option linter.unusedVariables false
set_option linter.unusedSimpArgs false
theorem N9 (c:aO) (e:QL):ah bY (ir c e).1≤max (ah bY c) 2000:=by
 rcases N8 c e with⟨h,_⟩ |⟨h,_⟩
 ·rw[h];omega
 ·have:ah bY (ir c e).1≤2000:=(afo h).szC
  omega
theorem rY (c:aO) (e:QL) (h:wfs [bY,df] (c,e,())):∃ N,∀ kf,L9 N c e kf=kf true:=by
 obtain⟨N,hN⟩:∃ N,N=2*ah bY c+4000:=⟨_,rfl⟩
 refine⟨N,fun kf=>?_⟩
 have hw:wf bY c:=h.1
 unfold L9
 rw[auD hw (by omega) (by omega) (by omega)]
 refine aeX (by omega) fun hb=>?_
 have hc:=alz (N:=N) hw (by omega) (by omega)
 have hsr:=N9 c e
 have hS:∀ k,S60 N c e k=k (ir c e).1 (ir c e).2:=fun k=>au4 hc
 have hI:∀ k,I13 N c e k=k (ir c e).1 (ir c e).2:=fun k=>au5 hc
 generalize ir c e=q at*
 obtain⟨r,b⟩:=q
 simp only at hsr hS hI
 have h1:∀ k,L22 N c k=k c:=fun k=>auI (by omega) (by omega)
 have h1b:∀ k,L61 N e k=k e:=fun k=>rfl
 have mc:=xj bY c 1 (by decide)
 have mr:=xj bY r 1 (by decide)
 have e1:decide ((c6 bY c 1).2<0)=false:=decide_eq_false (by omega)
 have e2:decide ((c6 bY r 1).2<0)=false:=decide_eq_false (by omega)
 have h2:∀ k,L24 N c c k=k true:=fun k=>aeV (by omega) (by omega)
 have h3:∀ k,L24 N r r k=k true:=fun k=>aeV (by omega) (by omega)
 have h4:∀ k,L25 N c 1 k=k (c6 bY c 1).2 (c6 bY c 1).1:=fun k=>aeW (by omega) (by omega) (by omega) (by omega)
 have h5:∀ k,L25 N r 1 k=k (c6 bY r 1).2 (c6 bY r 1).1:=fun k=>aeW (by omega) (by omega) (by omega) (by omega)
 have h6:∀ k,L26 N (c6 bY r 1).1 1 k=k (c6 bY r 1).2:=fun k=>auJ (by omega) (by omega) (by omega) (by omega)
 have he:((c6 bY r 1).1.1,((c6 bY r 1).1.2.1,((c6 bY r 1).1.2.2.1,((c6 bY r 1).1.2.2.2.1,((c6 bY r 1).1.2.2.2.2.1,((c6 bY r 1).1.2.2.2.2.2.1,r.2.2.2.2.2.2))))))=(c6 bY r 1).1:=rfl
 simp only[h1,h1b,hS,hI,h2,h3,h4,h5,he,h6,e1,e2,Bool.not_true,cond_false,bne_self_eq_false,beq_self_eq_true]
end Go.Pv.R
namespace Go.Pv.R
set_option linter.unusedVariables false
set_option linter.unusedSimpArgs false
theorem once {N:Nat} {n:Int} {c:Cur} (h0:0<n) (h1:n≤256) (hc:Xd c):∃ v,∃ c':Cur,Xd c'∧∀ kf,Cr N c n kf=kf v c':=by
 obtain⟨v,c',h2,_,h4⟩:=Jq (N:=N) h0 h1 c hc
 exact⟨v,c',h2,h4⟩
end Go.Pv.R
namespace Go.Pv.R
set_option linter.unusedVariables false
set_option linter.unusedSimpArgs false
end Go.Pv.R
namespace Go.Pv.R
set_option linter.unusedVariables false
set_option linter.unusedSimpArgs false
end Go.Pv.R
