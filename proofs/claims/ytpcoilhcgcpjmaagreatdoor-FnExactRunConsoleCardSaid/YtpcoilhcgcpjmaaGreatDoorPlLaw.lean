/- The law over the plain functions. -/
import Derived.Test.YtpcoilhcgcpjmaaGreatDoorPlLaw0
set_option linter.unusedSimpArgs false
set_option linter.unusedVariables false
noncomputable section
namespace Go.Pv.R
open List Int IntKind
def ofM (b:tc):Int:=bif decide (b.2.1>b.2.2) then 1 else 2
theorem aeV (b:tc):ofM b=1∨ofM b=2:=by unfold ofM;cases decide (b.2.1>b.2.2)<;>simp
theorem adJ {N:Nat} {b:tc} {kf:Int->aa}:Eb N b kf=kf (ofM b):=by unfold Eb ofM;cases decide (b.2.1>b.2.2)<;>rfl
theorem acE {N:Nat} {b:tc} {kf:Int->aa}:Ai N b kf=kf (ofM b):=by unfold Ai ofM;cases decide (b.2.1>b.2.2)<;>rfl
theorem GW {N:Nat} {b:tc} {kf:Bool->aa} (hN:2<N):oK N [b] kf=kf (iB b):=by have hm:=aU;unfold oK;rw[P5 (by simp;omega) (by simp;omega)];simp only[EO,Eu];cases iB b<;>rfl
theorem o6 {N:Nat} {b:tc} {kf:Bool->aa} (hN:2<N):qI N [b] kf=kf (iB b):=by have hm:=aU;unfold qI;rw[P8 (by simp;omega) (by simp;omega)];simp only[EO,Ev];cases iB b<;>rfl
def aeW (b:tc) (k:Int):Int:=bif ofM b==k then 1 else 0
theorem Wq {N:Nat} {b:tc} {k:Int} {kf:Int->aa} (hN:2<N) (hb:iB b=true):yf N [b] k kf=kf (aeW b k):=by have hm:=aU;unfold yf aeW;rw[Ua (by simp;omega) (by simp;omega)];simp only[dU,GW hN,hb,ab,adJ];cases ofM b==k<;>rfl
theorem Ws {N:Nat} {b:tc} {k:Int} {kf:Int->aa} (hN:2<N) (hb:iB b=true):yo N [b] k kf=kf (aeW b k):=by have hm:=aU;unfold yo aeW;rw[o6 hN,hb];simp only[az,ae];rw[Ug (by simp;omega) (by simp;omega)];simp only[dU,acE];cases ofM b==k<;>rfl
theorem Oz {N:Nat} {b:tc} {kf:Int->aa} {k:Int} (hN:2<N) (hb:iB b=true):∃ r,∀ kf,wM N [b] k kf=kf r:=by
 have hm:=aU;by_cases h1:k=1
 ·subst h1;refine⟨wrap .i64 (0+b.2.1),λkf=>?_⟩;unfold wM;rw[o6 hN,hb];simp only[az,ae];rw[Ep (by simp;omega) (by simp;omega)];simp only[dU];rfl
 have e1:(k==(1:Int))=false:=by simpa using h1
 by_cases h2:k=2
 ·subst h2;refine⟨wrap .i64 (0+b.2.2),λkf=>?_⟩;unfold wM;rw[o6 hN,hb];simp only[az,ae];rw[Ep (by simp;omega) (by simp;omega)];simp only[dU];rfl
 have e2:(k==(2:Int))=false:=by simpa using h2
 refine⟨0,λkf=>?_⟩;unfold wM;rw[o6 hN,hb];simp only[az,ae];rw[Ep (by simp;omega) (by simp;omega)];simp only[dU,e1,e2,ae]
theorem Wt {N:Nat} {b:tc} {kf:Int->aa} (hN:2<N) (hb:iB b=true):vg N [b] kf=kf (ofM b):=by unfold vg;have e:((length [b]:Int)==(0:Int))=false:=rfl;rw[e,ae,GW hN,hb];simp only[az,ae,Wq hN hb];unfold aeW;rcases aeV b with h |h<;>rw[h]<;>rfl
theorem Wu {N:Nat} {b:tc} {kf:Int->aa} (hN:2<N) (hb:iB b=true):vh N [b] kf=kf (ofM b):=by unfold vh;have e:((length [b]:Int)==(0:Int))=false:=rfl;obtain⟨r1,h1⟩:=Oz (N:=N) (b:=b) (kf:=kf) (k:=1) hN hb;obtain⟨r2,h2⟩:=Oz (N:=N) (b:=b) (kf:=kf) (k:=2) hN hb;rw[e,ae,o6 hN,hb];simp only[az,ae,Ws hN hb,h1,h2];unfold aeW;rcases aeV b with h |h<;>rw[h]<;>rfl
def two {α:Type} (t:List α) (i j:Nat) (x y:α):List α:=(t.set i x).set j y
section
variable {α:Type} {t:List α} {i j:Nat} {x y x' y' z:α}
theorem Wv:(two t i j x y).length=t.length:=by simp[two]
theorem ai8 (h:i≠j) (hi:i<t.length):(two t i j x y).getD i z=x:=by rw[aG,two,lP (by omega),mY hi];rfl
theorem ai9 (hj:j<t.length):(two t i j x y).getD j z=y:=by rw[aG,two,mY (by simpa using hj)];rfl
theorem ai' (h:i≠j):(two t i j x y).set i x'=two t i j x' y:=by unfold two;rw[List.set_comm _ _ (λe=>h e.symm),xf]
theorem aja:(two t i j x y).set j y'=two t i j x y':=by unfold two;rw[xf]
theorem ajb (h:i≠j):(t.set i x).getD j z=t.getD j z:=by rw[aG,lP (by omega),←aG]
theorem ann:(t.set i x).set j y=two t i j x y:=by rw[two]
end
def Sb (t:List bn) (i:Nat) (b d p:Int):bn:=((t.getD i eZ).1,((t.getD i eZ).2.1,((bif d==1 then wrap .i64 ((t.getD i eZ).2.2.1+1) else(t.getD i eZ).2.2.1),(wrap .i64 ((t.getD i eZ).2.2.2.1+p),(wrap .i64 ((t.getD i eZ).2.2.2.2.1+1),(t.getD i eZ).2.2.2.2.2++[b])))))
def GX (t:List bn) (j:Nat) (a d q:Int):bn:=((t.getD j eZ).1,((t.getD j eZ).2.1,((bif d==1 then(t.getD j eZ).2.2.1 else wrap .i64 ((t.getD j eZ).2.2.1+1)),(wrap .i64 ((t.getD j eZ).2.2.2.1+q),((t.getD j eZ).2.2.2.2.1,(t.getD j eZ).2.2.2.2.2++[a])))))
def adK (t:List bn) (a b d p q:Int):List bn:=two t (bK t a).toNat (bK t b).toNat (Sb t (bK t a).toNat b d p) (GX t (bK t b).toNat a d q)
def agm (t:List bn) (a b d p q:Int):Bool:=bB t&&(decide (bK t a≥0)&&(decide (bK t b≥0)&&((bK t a != bK t b)&&(pk d 1 2&&(pk p 0 1000&&pk q 0 1000)))))
def SY (t:List bn) (a b d p q:Int):Bool:=agm t a b d p q&&bB (adK t a b d p q)
def agn (t:List bn) (a b d p q:Int):List bn:=bif SY t a b d p q then adK t a b d p q else t
theorem Qo {t:List bn} {a b d p q:Int} {N:Nat} (ha:bK t a≥0) (hb:bK t b≥0) (h:∀ x:bn,x∈t->x.met.length+1<N):∀ x:bn,x∈adK t a b d p q->x.met.length<N:=by
 intro x hx;unfold adK two at hx;rcases fK hx with hx |rfl
 ·rcases fK hx with hx |rfl
  ·have:=h x hx;omega
  have:=h _ (B6 ha).1;show((t.getD (bK t a).toNat eZ).2.2.2.2.2++[b]).length<N;rw[ax];exact this
 have:=h _ (B6 hb).1;show((t.getD (bK t b).toNat eZ).2.2.2.2.2++[a]).length<N;rw[ax];exact this
theorem Ww {N:Nat} {t:List bn} {a b d p q:Int} {kf:List bn->Bool->aa} (hl:t.length<=1048700) (hm:∀ x:bn,x∈t->x.met.length<=1048700/\x.met.length+1<N) (hN:t.length<N):sR N t a b d p q kf=kf (agn t a b d p q) (SY t a b d p q):=by
 have hx:=aU;have hm1:∀ x∈t,x.met.length<=maxLen/\x.met.length<N:=λx hx=>by have:=hm x hx;omega
 unfold sR agn SY agm;rw[oQ hl (λx hx=>(hm x hx).1) hN,fQ (by omega) hN,fQ (by omega) hN,fS (by omega) hm1 hN];simp only[ju];cases bB t with
 |false=>rfl
 |true=>
  by_cases ha:bK t a≥0
  rotate_left
  ·rw[af (show bK t a<0 by omega),an ha];rfl
  by_cases hb:bK t b≥0
  rotate_left
  ·rw[an (show ¬bK t a<0 by omega),af ha,af (show bK t b<0 by omega),an hb];rfl
  have hT:∀ x:bn,x∈adK t a b d p q->x.met.length<N:=Qo ha hb λx hx=>(hm x hx).2
  have hT2:∀ x:bn,x∈adK t a b d p q->x.met.length<1048800:=Qo ha hb λx hx=>by have:=(hm x hx).1;omega
  obtain⟨i,hi,ei,_⟩:=fP (p:=λx:bn=>x.1==a) (l:=t) (by unfold bK at ha;omega)
  obtain⟨j,hj,ej,_⟩:=fP (p:=λx:bn=>x.1==b) (l:=t) (by unfold bK at hb;omega)
  have ei:bK t a=(i:Int):=ei
  have ej:bK t b=(j:Int):=ej
  unfold adK at hT hT2 ⊢
  rw[ei,ej] at hT hT2 ⊢
  simp only[aj] at hT hT2 ⊢
  rw[af (show(i:Int)≥0 by omega),af (show(j:Int)≥0 by omega),an (show ¬(i:Int)<0 by omega),an (show ¬(j:Int)<0 by omega)]
  simp only[az,ae,aA]
  by_cases QX:i=j
  ·subst QX;simp
  have e1:((i:Int)==(j:Int))=false:=by simpa using λe=>QX (by omega)
  have e2:((i:Int) != (j:Int))=true:=by simp only[bne,e1];rfl
  rw[e1,e2]
  cases pk d 1 2 with
  |false=>rfl
  |true=>
  cases pk p 0 1000 with
  |false=>rfl
  |true=>
  cases pk q 0 1000 with
  |false=>rfl
  |true=>
  have li:=(hm _ (aK hi)).1
  have lj:=(hm _ (aK hj)).1
  have gi:t.getD i eZ=t[i]:=aO _ _ hi _
  have gj:t.getD j eZ=t[j]:=aO _ _ hj _
  have b1:decide ((length (t.getD i eZ).2.2.2.2.2+length [b])*1<=4398046511104)=true:=by rw[gi];exact af (by have:t[i].2.2.2.2.2.length<=1048700:=li;simp;omega)
  have b2:decide ((length (t.getD j eZ).2.2.2.2.2+length [a])*1<=4398046511104)=true:=by rw[gj];exact af (by have:t[j].2.2.2.2.2.length<=1048700:=lj;simp;omega)
  simp only[ajb QX,bF,aL hi,aL hj,ab,ae,az,b1,b2,bS,share,ann,Wv,ai8 QX hi,ai9 hj,ai' QX,aja,aA]
  have hW:(two t i j (Sb t i b d p) (GX t j a d q)).length=t.length:=Wv
  have key:vN N t kf (two t i j (Sb t i b d p) (GX t j a d q))=kf (bif bB (two t i j (Sb t i b d p) (GX t j a d q)) then two t i j (Sb t i b d p) (GX t j a d q) else t) (bB (two t i j (Sb t i b d p) (GX t j a d q))):=by
   unfold vN
   rw[fS (by omega) (λx hx=>⟨by have:=hT2 x hx;omega,hT x hx⟩) (by omega)]
   cases bB (two t i j (Sb t i b d p) (GX t j a d q)) with
   |false=>simp only[bC,ab,ae];rw[oQ hl (λx hx=>(hm x hx).1) hN]
   |true=>rfl
  refine kC ?_ key
  unfold Sb GX
  cases d==1<;>rfl
theorem Wx {N:Nat} {t:List bn} {a b d p q:Int} {kf:List bn->Bool->aa} (hl:t.length<=1048700) (hm:∀ x:bn,x∈t->x.met.length<=1048700/\x.met.length+1<N) (hN:t.length<N):s4 N t a b d p q kf=kf (agn t a b d p q) (SY t a b d p q):=by
 have hx:=aU;have hm1:∀ x∈t,x.met.length<=maxLen/\x.met.length<N:=λx hx=>by have:=hm x hx;omega
 unfold s4 agn SY agm;rw[zN hl (λx hx=>(hm x hx).1) hN,fR (by omega) hN,fR (by omega) hN,gR (by omega) hm1 hN];simp only[eX];cases bB t with
 |false=>rfl
 |true=>
  by_cases ha:bK t a≥0
  rotate_left
  ·rw[af (show bK t a<0 by omega),an ha];rfl
  by_cases hb:bK t b≥0
  rotate_left
  ·rw[an (show ¬bK t a<0 by omega),af ha,af (show bK t b<0 by omega),an hb];rfl
  have hT:∀ x:bn,x∈adK t a b d p q->x.met.length<N:=Qo ha hb λx hx=>(hm x hx).2
  have hT2:∀ x:bn,x∈adK t a b d p q->x.met.length<1048800:=Qo ha hb λx hx=>by have:=(hm x hx).1;omega
  obtain⟨i,hi,ei,_⟩:=fP (p:=λx:bn=>x.1==a) (l:=t) (by unfold bK at ha;omega)
  obtain⟨j,hj,ej,_⟩:=fP (p:=λx:bn=>x.1==b) (l:=t) (by unfold bK at hb;omega)
  have ei:bK t a=(i:Int):=ei
  have ej:bK t b=(j:Int):=ej
  unfold adK at hT hT2 ⊢
  rw[ei,ej] at hT hT2 ⊢
  simp only[aj] at hT hT2 ⊢
  rw[af (show(i:Int)≥0 by omega),af (show(j:Int)≥0 by omega),an (show ¬(i:Int)<0 by omega),an (show ¬(j:Int)<0 by omega)]
  simp only[az,ae,aA]
  by_cases QX:i=j
  ·subst QX;simp
  have e1:((i:Int)==(j:Int))=false:=by simpa using λe=>QX (by omega)
  have e2:((i:Int) != (j:Int))=true:=by simp only[bne,e1];rfl
  rw[e1,e2]
  cases pk d 1 2 with
  |false=>rfl
  |true=>
  cases pk p 0 1000 with
  |false=>rfl
  |true=>
  cases pk q 0 1000 with
  |false=>rfl
  |true=>
  have li:=(hm _ (aK hi)).1
  have lj:=(hm _ (aK hj)).1
  have gi:t.getD i eZ=t[i]:=aO _ _ hi _
  have gj:t.getD j eZ=t[j]:=aO _ _ hj _
  have b1:decide ((length (t.getD i eZ).2.2.2.2.2+length [b])*1<=4398046511104)=true:=by rw[gi];exact af (by have:t[i].2.2.2.2.2.length<=1048700:=li;simp;omega)
  have b2:decide ((length (t.getD j eZ).2.2.2.2.2+length [a])*1<=4398046511104)=true:=by rw[gj];exact af (by have:t[j].2.2.2.2.2.length<=1048700:=lj;simp;omega)
  have hnb:Nat.beq i j=false:=by
   cases h:Nat.beq i j with
   |false=>rfl
   |true=>exact absurd (aw h) QX
  have hW:(two t i j (Sb t i b d p) (GX t j a d q)).length=t.length:=Wv
  have key:(fY N (two t i j (Sb t i b d p) (GX t j a d q)) (λ(af4:Bool)=>
       bif (!af4) then
        oM N t (λ(af5:bg)=>
         kf af5 false)
       else
        kf (two t i j (Sb t i b d p) (GX t j a d q)) true))=kf (bif bB (two t i j (Sb t i b d p) (GX t j a d q)) then two t i j (Sb t i b d p) (GX t j a d q) else t) (bB (two t i j (Sb t i b d p) (GX t j a d q))):=by
   rw[gR (by omega) (λx hx=>⟨by have:=hT2 x hx;omega,hT x hx⟩) (by omega)]
   cases bB (two t i j (Sb t i b d p) (GX t j a d q)) with
   |false=>simp only[bC,ab,ae];rw[zN hl (λx hx=>(hm x hx).1) hN]
   |true=>rfl
  refine kC ?_ key
  simp only[BO,aj,hnb,bC,cM,ajb QX,bF,aL hi,aL hj,ab,ae,az,b1,b2,bS,share,ann,Wv,ai8 QX hi,ai9 hj,ai' QX,aja,aA]
  unfold Sb GX
  cases d==1<;>rfl
end Go.Pv.R
namespace Go.Pv
open List Int IntKind
theorem aeX {α β:Type} {f:α->β} {p:β->Bool}:∀ (l:List α) (i:Nat),x9 p (l.map f) i=x9 (λx=>p (f x)) l i
 |[],_=>rfl
 |x::r,i=>by simp only[bz,x9,aeX r]
theorem SZ {α β:Type} {c:Nat->α->Bool} {f:Nat->α->β}:∀ (l:List α) (i:Nat),(lF c f l i).length=0->∀ (j:Nat) (h:j<l.length),c (i+j) l[j]=false
 |[],i,_,j,h=>by simp at h
 |x::r,i,hl,j,h=>by
  simp only[lF] at hl;cases hc:c i x with
  |true=>rw[hc] at hl;simp at hl
  |false=>
  rw[hc,ae] at hl;cases j with
  |zero=>exact hc
  |succ j=>have:=SZ r (i+1) hl j (by simpa using h);rw[show i+(j+1)=i+1+j by omega];exact this
end Go.Pv
namespace Go.Pv.R
open List Int IntKind
theorem aoY {l m:List c8} {id:Int} (h:l.map (λx:c8=>x.1)=m.map λx:c8=>x.1):gI l id=gI m id:=by unfold gI uU;have e:∀ l:List c8,x9 (λx:c8=>x.1==id) l 0=x9 (λy:Int=>y==id) (l.map λx:c8=>x.1) 0:=λl=>(aeX (f:=λx:c8=>x.1) (p:=λy:Int=>y==id) l 0).symm;rw[e l,e m,h]
theorem avC {s:List Int} {a b:Int} (h:Asc s):oZ (Ae (s++[a,b]))=Gq (Gq s a) b:=by
 obtain⟨h1,h2⟩:=adE (Ae (s++[a,b])) (asz _);refine am9 h1 (Qd (Qd h)) λx=>?_;rw[h2,aoR,Wd,Wd];simp only[a8,aS,List.not_mem_nil,or_false];constructor
 ·rintro(h |h |h)<;>simp[h]
 rintro(h |h |h)<;>simp[h]
theorem acF {t:List bn} {a b d p q:Int} (h:SY t a b d p q=true):bK t a≥0/\bK t b≥0:=by unfold SY agm at h;simp only[ai,au] at h;exact⟨h.1.2.1,h.1.2.2.1⟩
theorem asO {t:List bn} {a b d p q:Int}:(agn t a b d p q).length=t.length:=by
 unfold agn;cases SY t a b d p q with
 |false=>rfl
 |true=>exact Wv
theorem asP {t:List bn} {a b d p q:Int} {M:Nat} (h:∀ x:bn,x∈t->x.met.length<=M):∀ x:bn,x∈agn t a b d p q->x.met.length<=M+1:=by
 intro x hx;unfold agn at hx;cases hb:SY t a b d p q with
 |false=>rw[hb,ae] at hx;have:=h x hx;omega
 |true=>rw[hb,ab] at hx;have:=Qo (N:=M+2) (acF hb).1 (acF hb).2 (λx hx=>by have:=h x hx;omega) x hx;omega
def asQ (js:List c8) (k:Nat) (a b:Int):List c8:=js.set k ((js.getD k jy).1,((js.getD k jy).2.1,Gq (Gq (js.getD k jy).2.2 a) b))
theorem asR {js:List c8} {k:Nat} {a b:Int} (hk:k<js.length):(asQ js k a b).map (λx:c8=>x.1)=js.map λx:c8=>x.1:=by
 unfold asQ;rw[n7];apply wx (by simp);intro i h1 h2;rw[List.getElem_set];split
 ·rename_i e;subst e;rw[aO _ _ hk];simp
 rfl
theorem asS {js:List c8} {k:Nat} {a b:Int} {M:Nat} (hk:k<js.length) (h:∀ x:c8,x∈js->Asc x.2.2/\x.2.2.length<=M):∀ x:c8,x∈asQ js k a b->Asc x.2.2/\x.2.2.length<=M+2:=by
 intro x hx;unfold asQ at hx;rcases fK hx with hx |rfl
 ·have:=h x hx;exact⟨this.1,by omega⟩
 have:=h (js.getD k jy) (by rw[aO _ _ hk];exact aK hk);have l1:=We (js.getD k jy).2.2 a;have l2:=We (Gq (js.getD k jy).2.2 a) b;refine⟨Qd (Qd this.1),?_⟩;show(Gq (Gq (js.getD k jy).2.2 a) b).length<=M+2;omega
def S0 (c:bE) (i:Nat):tc:=c.2.2.2.2.1.getD i x4
def qA (c:bE) (i:Nat):Int:=c.2.2.2.1.getD i 0
def ZG (c:bE) (i:Nat) (x:ij) (s:bE):Bool:=SY s.1 x.1 x.2 (ofM (S0 c i)) (S0 c i).2.1 (S0 c i).2.2
def Uq (c:bE) (i:Nat) (x:ij) (s:bE):bE:=(agn s.1 x.1 x.2 (ofM (S0 c i)) (S0 c i).2.1 (S0 c i).2.2,(asQ s.2.1 (gI s.2.1 (qA c i)).toNat x.1 x.2,s.2.2))
def qh (c:bE):List ij->Nat->bE->Bool->bE×Bool
 |[],_,s,ok=>(s,ok)
 |x::r,i,s,ok=>qh c r (i+1) (Uq c i x s) (ok&&ZG c i x s)
structure HW (c:bE):Prop where
 t10:c.1.length<=10
 tm:∀ x:bn,x∈c.1->x.met.length<=20
 j10:c.2.1.length<=10
 js:∀ x:c8,x∈c.2.1->Asc x.2.2/\x.2.2.length<=99
 r10:c.2.2.1.length<=10
 sl:c.2.2.2.1.length=c.2.2.1.length
 bl:c.2.2.2.2.1.length=c.2.2.1.length
 sf:∀ i,i<c.2.2.1.length->gI c.2.1 (qA c i)≥0
 bb:∀ i,i<c.2.2.1.length->iB (S0 c i)=true
structure o7 (c:bE) (i:Nat) (s:bE):Prop where
 tl:s.1.length=c.1.length
 tm:∀ x:bn,x∈s.1->x.met.length<=20+i
 ji:s.2.1.map (λx:c8=>x.1)=c.2.1.map λx:c8=>x.1
 js:∀ x:c8,x∈s.2.1->Asc x.2.2/\x.2.2.length<=99+2*i
 re:s.2.2=c.2.2
theorem o7.azO {c s:bE} {i:Nat} (h:o7 c i s):s.2.1.length=c.2.1.length:=by have:=br length h.ji;simpa using this
theorem o7.fjd {c s:bE} {i:Nat} (h:o7 c i s) (id:Int):gI s.2.1 id=gI c.2.1 id:=aoY h.ji
theorem Ur {c s:bE} {i:Nat} {x:ij} (hc:HW c) (hi:i<c.2.2.1.length) (h:o7 c i s):o7 c (i+1) (Uq c i x s):=by have hf:=hc.sf i hi;rw[←h.fjd] at hf;have hk:=(IQ hf).2;exact⟨by rw[←h.tl];exact asO,λy hy=>by have:=asP h.tm y hy;omega,by rw[←h.ji];exact asR hk,λy hy=>by have:=asS hk h.js y hy;exact⟨this.1,by omega⟩,h.re⟩
theorem Us {c:bE} (hc:HW c):∀ (r:List ij) (i:Nat) (s:bE) (ok:Bool),i+r.length=c.2.2.1.length->o7 c i s->o7 c c.2.2.1.length (qh c r i s ok).1
 |[],i,s,ok,h,hs=>by simp at h;subst h;exact hs
 |x::r,i,s,ok,h,hs=>by simp only[ak] at h;exact Us hc r (i+1) _ _ (by omega) (Ur hc (by omega) hs)
theorem Wy {c:bE}:∀ (r:List ij) (i:Nat) (s:bE),(qh c r i s false).2=false
 |[],i,s=>rfl
 |x::r,i,s=>by unfold qh;rw[fi];exact Wy r (i+1) _
theorem OA {N:Nat} {c:bE} {k:bE->Bool->aa} {body:Nat->ij->bE->Bool->(bE->Bool->aa)->aa} (hb:∀ (i:Nat) (x:ij) (s:bE) (ok:Bool) (next:bE->Bool->aa),i<c.2.2.1.length->o7 c i s->body i x s ok next=next (Uq c i x s) (ok&&ZG c i x s)) (hc:HW c):∀ (r:List ij) (i:Nat) (s:bE) (ok:Bool),i+r.length=c.2.2.1.length->o7 c i s->Yc body k r i s ok=k (qh c r i s ok).1 (qh c r i s ok).2
 |[],i,s,ok,h,hs=>rfl
 |x::r,i,s,ok,h,hs=>by simp only[ak] at h;simp only[Yc];rw[hb i x s ok _ (by omega) hs];exact OA (N:=N) hb hc r (i+1) _ _ (by omega) (Ur hc (by omega) hs)
theorem OB {N:Nat} {c:bE} {k:bE->aa} {no:aa} {body:Nat->ij->bE->(bE->aa)->aa} (hb:∀ (i:Nat) (x:ij) (s:bE) (next:bE->aa),i<c.2.2.1.length->o7 c i s->body i x s next=bif ZG c i x s then next (Uq c i x s) else no) (hc:HW c):∀ (r:List ij) (i:Nat) (s:bE),i+r.length=c.2.2.1.length->o7 c i s->dU body k r i s=bif (qh c r i s true).2 then k (qh c r i s true).1 else no
 |[],i,s,h,hs=>rfl
 |x::r,i,s,h,hs=>by
  simp only[ak] at h;simp only[dU];rw[hb i x s _ (by omega) hs];unfold qh;rw[aA];cases ZG c i x s with
  |false=>rw[Wy];rfl
  |true=>exact OB (N:=N) hb hc r (i+1) _ (by omega) (Ur hc (by omega) hs)
theorem Z8 {N:Nat} {c s:bE} {i:Nat} {x:ij} {next:bE->Bool->aa} {ok:Bool} (hc:HW c) (avD:200<N) (hi:i<c.2.2.1.length) (h:o7 c i s): (bif (bp (i:Int) (length c.2.2.2.2.1)) then vg N [(getD c.2.2.2.2.1 (toNat (i:Int)) x4)] (λ(abJ:Int)=> sR N s.1 x.1 x.2 abJ (getD c.2.2.2.2.1 (toNat (i:Int)) x4).2.1 (getD c.2.2.2.2.1 (toNat (i:Int)) x4).2.2 (λ(PT:bg) (NG:Bool)=> bif ok then bif (bp (i:Int) (length c.2.2.2.1)) then jf N s.2.1 (getD c.2.2.2.1 (toNat (i:Int)) (0:Int)) (λ(sU:Int)=> bif (bp sU (length s.2.1)) then iP N (getD s.2.1 (toNat sU) jy).2.2 x.1 (λ(abK:aq)=> iP N abK x.2 (λ(VG:aq)=> bif (bp sU (length s.2.1)) then next (PT,((List.set s.2.1 (toNat sU) ((getD s.2.1 (toNat sU) jy).1,((getD s.2.1 (toNat sU) jy).2.1,VG))),s.2.2)) NG else none)) else none) else none else bif (bp (i:Int) (length c.2.2.2.1)) then jf N s.2.1 (getD c.2.2.2.1 (toNat (i:Int)) (0:Int)) (λ(sV:Int)=> bif (bp sV (length s.2.1)) then iP N (getD s.2.1 (toNat sV) jy).2.2 x.1 (λ(TQ:aq)=> iP N TQ x.2 (λ(VH:aq)=> bif (bp sV (length s.2.1)) then next (PT,((List.set s.2.1 (toNat sV) ((getD s.2.1 (toNat sV) jy).1,((getD s.2.1 (toNat sV) jy).2.1,VH))),s.2.2)) false else none)) else none) else none)) else none)=next (Uq c i x s) (ok&&ZG c i x s):=by
 have hx:=aU;have r10:=hc.r10;have t10:=hc.t10;have j10:=hc.j10;have tl:=h.tl;have jl:=h.azO;have hf:=hc.sf i hi;rw[←h.fjd] at hf;obtain⟨f1,f2⟩:=IQ hf;have eb:getD c.2.2.2.2.1 (toNat (i:Int)) x4=S0 c i:=rfl;have es:getD c.2.2.2.1 (toNat (i:Int)) (0:Int)=qA c i:=rfl;have hj:=h.js (getD s.2.1 (gI s.2.1 (qA c i)).toNat jy) (by rw[aO _ _ f2];exact aK f2);have l1:=We (getD s.2.1 (gI s.2.1 (qA c i)).toNat jy).2.2 x.1;rw[eb,es,aL (show i<c.2.2.2.2.1.length by rw[hc.bl];exact hi),aL (show i<c.2.2.2.1.length by rw[hc.sl];exact hi),ab,Wt (by omega) (hc.bb i hi),Ww (by omega) (λy hy=>by have:=h.tm y hy;omega) (by omega)];simp only[ab,Gk (N:=N) (l:=s.2.1) (id:=qA c i) (by omega) (by omega),f1,Qe (N:=N) (l:=(getD s.2.1 (gI s.2.1 (qA c i)).toNat jy).2.2) (n:=x.1) (by omega) (by omega),Qe (N:=N) (l:=Gq (getD s.2.1 (gI s.2.1 (qA c i)).toNat jy).2.2 x.1) (n:=x.2) (by omega) (by omega)];cases ok with
 |true=>rfl
 |false=>rfl
theorem Z9 {N:Nat} {c s:bE} {i:Nat} {x:ij} {next:bE->aa} {kf:bE->Bool->aa} (ho:cS c N) (hc:HW c) (avD:200<N) (hi:i<c.2.2.1.length) (h:o7 c i s): (bif (bp (i:Int) (length c.2.2.2.2.1)) then vh N [(getD c.2.2.2.2.1 (toNat (i:Int)) x4)] (λ(ab1:Int)=> s4 N s.1 x.1 x.2 ab1 (getD c.2.2.2.2.1 (toNat (i:Int)) x4).2.1 (getD c.2.2.2.2.1 (toNat (i:Int)) x4).2.2 (λ(ab2:bg) (ab3:Bool)=> bif (!ab3) then bR N c (λ(ab4:QC)=> kf ab4 false) else bif (bp (i:Int) (length c.2.2.2.1)) then pr N s.2.1 (getD c.2.2.2.1 (toNat (i:Int)) (0:Int)) (λ(mo:Int)=> bif (bp mo (length s.2.1)) then bif (decide ((length (getD s.2.1 (toNat mo) jy).2.2+length [x.1,x.2])*1<=4398046511104)) then alj N ((getD s.2.1 (toNat mo) jy).2.2++[x.1,x.2]) (λ(ab5:aq)=> aoO N ab5 (λ(ab6:aq)=> bif (bp mo (length s.2.1)) then bif (Nat.beq (toNat mo) (toNat mo)) then next (ab2,((List.set s.2.1 (toNat mo) ((getD s.2.1 (toNat mo) jy).1,((getD s.2.1 (toNat mo) jy).2.1,ab6))),s.2.2)) else none else none)) else none else none) else none)) else none)=bif ZG c i x s then next (Uq c i x s) else kf c false:=by have hx:=aU;have r10:=hc.r10;have t10:=hc.t10;have j10:=hc.j10;have tl:=h.tl;have jl:=h.azO;have hf:=hc.sf i hi;rw[←h.fjd] at hf;obtain⟨f1,f2⟩:=IQ hf;have eb:getD c.2.2.2.2.1 (toNat (i:Int)) x4=S0 c i:=rfl;have es:getD c.2.2.2.1 (toNat (i:Int)) (0:Int)=qA c i:=rfl;have hj:=h.js (getD s.2.1 (gI s.2.1 (qA c i)).toNat jy) (by rw[aO _ _ f2];exact aK f2);have ed:decide ((length (getD s.2.1 (gI s.2.1 (qA c i)).toNat jy).2.2+length [x.1,x.2])*1<=4398046511104)=true:=af (by simp only[ak,ao];omega);rw[eb,es,aL (show i<c.2.2.2.2.1.length by rw[hc.bl];exact hi),aL (show i<c.2.2.2.1.length by rw[hc.sl];exact hi),ab,Wu (by omega) (hc.bb i hi),Wx (by omega) (λy hy=>by have:=h.tm y hy;omega) (by omega)];simp only[ab,cX ho,Gm (N:=N) (l:=s.2.1) (id:=qA c i) (by omega) (by omega),f1,ed,bS];rw[avr (by simp only[ax,ak,ao];omega),avs,avC hj.1];show(bif !ZG c i x s then kf c false else next (Uq c i x s))=_;cases ZG c i x s<;>rfl
end Go.Pv.R
namespace Go.Pv.R
open List Int IntKind
theorem ajc {s:List Int} (h:aiJ s=true):Asc s/\s.length<=99:=by
 unfold aiJ at h;rw[nN] at h;have step:∀ (i:Nat) (hi:i<s.length),(1<=s[i]/\s[i]<=99)/\(0<i->s.getD (i - 1) 0<s[i]):=λi hi=>by have:=h i hi;rw[aW] at this;simp only[ai,bd,au,mv] at this;exact⟨this.1,λh0=>by omega⟩
 have mono:∀ (i:Nat) (hi:i<s.length) (j:Nat) (hj:j<i),s[j]'(by omega)<s[i]:=by
  intro i;induction i with
  |zero=>intro hi j hj;omega
  |succ i ih=>
  intro hi j hj;have h1:=(step (i+1) hi).2 (by omega);rw[pn,aO _ _ (show i<s.length by omega)] at h1;rcases wS (wR hj) with h2 |rfl
  ·have:=ih (by omega) j h2;omega
  exact h1
 have ha:Asc s:=gn.2 λj i hj hi HB=>mono i hi j HB;refine⟨ha,?_⟩;have hn:s.Nodup:=ha.imp λh=>by omega
 have:=MA s ((List.range 100).map λn:Nat=>(n:Int)) hn λx hx=>by obtain⟨i,hi,rfl⟩:=bo.1 hx;have:=(step i hi).1;exact cg.2 ⟨s[i].toNat,by rw[List.mem_range];omega,by omega⟩
 have h0:(0:Int)∉s:=λhc=>by obtain⟨i,hi,e⟩:=bo.1 hc;have:=(step i hi).1;omega
 have:=MA (0::s) ((List.range 100).map λn:Nat=>(n:Int)) (ek.2 ⟨h0,hn⟩) λx hx=>by
  rcases aS.1 hx with rfl |hx
  ·exact cg.2 ⟨0,by simp,rfl⟩
  obtain⟨i,hi,rfl⟩:=bo.1 hx;have:=(step i hi).1;exact cg.2 ⟨s[i].toNat,by rw[List.mem_range];omega,by omega⟩
 simp only[ak,aY,List.length_range] at this;omega
theorem ano {c:bE} (hc:dm c=true) (hr:c.2.2.1.length≠0) (hw:(dw c).length=0):HW c:=by
 obtain⟨l1,l2⟩:=J8 hc;unfold dm at hc;simp only[ai,bd,au] at hc;obtain⟨ht,hj,_,_,_,hs,hb,_⟩:=hc;have hs:wT c.1 c.2.2.1=true/\nA c.1 c.2.1 c.2.2.1 c.2.2.2.1=true:=hs.resolve_left hr;obtain⟨_,hs⟩:=hs;unfold nA at hs;simp only[ai,au] at hs;obtain⟨_,_,hs⟩:=hs;rw[nN] at hs;unfold bB at ht;simp only[ai,au] at ht;obtain⟨t10,htp,_⟩:=ht;unfold fm at hj;simp only[ai,au] at hj;obtain⟨j10,hjp⟩:=hj;rw[nN] at htp hjp hb;have sP:∀ i,i<c.2.2.1.length->gI c.2.1 (qA c i)≥0/\BY (c.2.2.2.1.take i) (qA c i)=false:=λi hi=>by have:=hs i hi;rw[aW] at this;unfold Ov at this;simp only[ai,au,bV] at this;exact⟨this.1,this.2.1⟩
 have hn:c.2.2.2.1.Nodup:=gn.2 λi j hi hj QX e=>by have h1:=(sP j (by omega)).2;have h2:BY (c.2.2.2.1.take j) (qA c j)=true:=(by rw[BZ];unfold qA;rw[aO _ _ hj,←e];exact bo.2 ⟨i,by rw[aH];omega,by rw[gw]⟩);rw[h1] at h2;cases h2
 have hle:=MA c.2.2.2.1 (c.2.1.map λx:c8=>x.1) hn λx hx=>by obtain⟨i,hi,rfl⟩:=bo.1 hx;have h1:=(sP i (by omega)).1;unfold qA at h1;rw[aO _ _ hi] at h1;obtain⟨k,hk,e,h2,_⟩:=fP (p:=λx:c8=>x.1==c.2.2.2.1[i]) (l:=c.2.1) (by unfold gI at h1;omega);exact cg.2 ⟨c.2.1[k],aK hk,by simpa using h2⟩
 rw[aY] at hle;refine⟨t10,λx hx=>?_,j10,λx hx=>?_,by omega,l1,l2,λi hi=>(sP i hi).1,λi hi=>?_⟩
 ·obtain⟨i,hi,rfl⟩:=bo.1 hx;have:=htp i hi;unfold xE at this;simp only[ai,au] at this;exact this.2.2.2.2.2.1
 ·obtain⟨i,hi,rfl⟩:=bo.1 hx;have:=hjp i hi;unfold IN at this;simp only[ai,au] at this;exact ajc this.2.2.2
 have Ba:i<c.2.2.2.2.1.length:=by omega
 have h1:=SZ c.2.2.2.2.1 0 hw i Ba;have h2:=hb i Ba;rw[aW] at h2;unfold B3 at h2;simp only[h1,eK,ai] at h2;unfold S0;rw[aO _ _ Ba];exact h2.1
def alI (c s:bE):bE:=(s.1,(s.2.1,([],([],([],(s.2.2.2.2.2.1,wrap .i64 (c.2.2.2.2.2.2+(length c.2.2.1:Int))))))))
def acG (c:bE):Bool:=dm c&&(decide (c.2.2.1.length≠0)&&decide ((dw c).length=0))
def zP (c:bE):bE×Bool:=bif acG c&&(qh c c.2.2.1 0 c true).2 then(xF c (alI c (qh c c.2.2.1 0 c true).1) 5 0,tM c (alI c (qh c c.2.2.1 0 c true).1) 5 0) else(c,false)
theorem Rq {c:bE} (hc:HW c):o7 c 0 c:=⟨rfl,λx hx=>by have:=hc.tm x hx;omega,rfl,λx hx=>by have:=hc.js x hx;exact⟨this.1,by omega⟩,rfl⟩
theorem anp {c s:bE} {N:Nat} (h:cS c N) (hc:HW c) (hs:o7 c c.2.2.1.length s) (hN:200<N):cS (alI c s) N:=by
 have hx:=aU;have r10:=hc.r10;have t10:=hc.t10;have j10:=hc.j10;have tl:=hs.tl;have jl:=hs.azO;have ht:∀ x:bn,x∈s.1->x.met.length<=40:=λx hx=>by have:=hs.tm x hx;omega
 have hj:∀ x:c8,x∈s.2.1->x.2.2.length<=140:=λx hx=>by have:=(hs.js x hx).2;omega
 have hre:s.2.2.2.2.2.1=c.2.2.2.2.2.1:=by rw[hs.re]
 exact⟨by show s.1.length<=_;omega,λx hx=>⟨by have:=ht x hx;omega,by have:=ht x hx;omega⟩,by show s.1.length<_;omega,by show s.2.1.length<=_;omega,λx hx=>⟨by have:=hj x hx;omega,by have:=hj x hx;omega⟩,by show s.2.1.length<_;omega,by show 0<=_;omega,by show 2*0<_;omega,by show 0<=_;omega,by show 0<_;omega,by show 0<=_;omega,by show 0<_;omega,by show s.2.2.2.2.2.1.length<=_;rw[hre];exact h.ml,by show s.2.2.2.2.2.1.length<_;rw[hre];exact h.mN,h.n8,by show s.1.length<=_;omega,λx hx=>by have:=ht x hx;omega,by show s.2.1.length<=_;omega,λx hx=>by have:=hj x hx;omega⟩
theorem aay (n:Nat):decide ((n:Int)>(0:Int))=!decide (n=0):=by
 by_cases h:n=0
 ·rw[il,af h];rfl
 rw[dZ,an h];rfl
theorem Wz {N:Nat} {c:bE} {kf:bE->Bool->aa} (h:cS c N) (hN:200<N) (hl:c.2.2.2.2.2.1.length+1<N):Bt N c kf=kf (zP c).1 (zP c).2:=by
 have hx:=aU;have hr:=h.rl;have hr2:=h.rN;unfold Bt zP acG;rw[dE h,wU h];cases hc:dm c with
 |false=>rfl
 |true=>
 simp only[az,ae,aA];unfold l6;rw[aay];by_cases iu:c.2.2.1.length=0
 ·rw[af iu,an (λe=>e iu)];rfl
 ·rw[an iu,af iu]
  simp only[az,bC,ae,aA]
  rw[zd h,aay]
  by_cases hw:(dw c).length=0
  rotate_left
  ·rw[an hw];rfl
  ·rw[af hw]
   have ho:=ano hc iu hw
   have hi:=Us ho c.2.2.1 0 c true (by omega) (Rq ho)
   simp only[az,ae,aA]
   rw[RJ (by omega) (by omega),OA (N:=N) (c:=c) (λi x s ok next hi hs=>Z8 ho hN hi hs) ho c.2.2.1 0 c true (by omega) (Rq ho)]
   refine(oS (out:=alI c (qh c c.2.2.1 0 c true).1) h (λ_=>anp h ho hi hN) hN hl).trans ?_
   cases (qh c c.2.2.1 0 c true).2<;>rfl
theorem WA {N:Nat} {c:bE} {kf:bE->Bool->aa} (h:cS c N) (hN:200<N) (hl:c.2.2.2.2.2.1.length+1<N):wO N c kf=kf (zP c).1 (zP c).2:=by
 have hx:=aU;have hr:=h.rl;have hr2:=h.rN;unfold wO zP acG;rw[cX h,td h];cases hc:dm c with
 |false=>rfl
 |true=>
 simp only[az,ae,aA];unfold iS;rw[aay];by_cases iu:c.2.2.1.length=0
 ·rw[af iu,an (λe=>e iu)];rfl
 ·rw[an iu,af iu]
  simp only[az,bC,ae,aA]
  rw[ze h,aay]
  by_cases hw:(dw c).length=0
  rotate_left
  ·rw[an hw]
   rfl
  ·rw[af hw]
   have ho:=ano hc iu hw
   have hi:=Us ho c.2.2.1 0 c true (by omega) (Rq ho)
   simp only[az,ae,aA]
   rw[cX h,RV (by omega) (by omega),OB (N:=N) (c:=c) (no:=kf c false) (λi x s next hi hs=>Z9 h ho hN hi hs) ho c.2.2.1 0 c (by omega) (Rq ho)]
   cases AQ:(qh c c.2.2.1 0 c true).2 with
   |false=>rfl
   |true=>
    have hre:(qh c c.2.2.1 0 c true).1.2.2=c.2.2:=hi.re
    have e2:((qh c c.2.2.1 0 c true).1.1,((qh c c.2.2.1 0 c true).1.2.1,(([]:List LR),(([]:List Int),(([]:List QB),((qh c c.2.2.1 0 c true).1.2.2.2.2.2.1,(wrap .i64 ((qh c c.2.2.1 0 c true).1.2.2.2.2.2.2+(length c.2.2.1:Int)))))))))=alI c (qh c c.2.2.1 0 c true).1:=by
     unfold alI
     rw[hre]
    simp only[ab]
    rw[e2]
    exact qL (out:=alI c (qh c c.2.2.1 0 c true).1) h (anp h ho hi hN) (by show(qh c c.2.2.1 0 c true).1.2.2.2.2.2.1=_;rw[hre]) hN hl
end Go.Pv.R
namespace Go.Pv.R
open List Int IntKind
structure Small (c:bE):Prop where
 t10:c.1.length<=10
 tm:∀ x:bn,x∈c.1->x.met.length<=20
 j10:c.2.1.length<=10
 js:∀ x:c8,x∈c.2.1->x.2.2.length<=99
 r10:c.2.2.1.length<=10
 s10:c.2.2.2.1.length<=10
 b10:c.2.2.2.2.1.length<=10
 aDI:c.2.2.2.2.2.1.length<=200
theorem th {c:bE} (hc:dm c=true):Small c:=by
 obtain⟨l1,l2⟩:=J8 hc;unfold dm at hc;simp only[ai,bd,au] at hc;obtain⟨ht,hj,hm,_,_,hs,hb,_⟩:=hc;unfold sG at hm;simp only[ai,au] at hm;unfold bB at ht;simp only[ai,au] at ht;obtain⟨t10,htp,_⟩:=ht;unfold fm at hj;simp only[ai,au] at hj;obtain⟨j10,hjp⟩:=hj;rw[nN] at htp hjp;have r10:c.2.2.1.length<=10:=by
  rcases hs with hs |hs
  ·omega
  have hs:nA c.1 c.2.1 c.2.2.1 c.2.2.2.1=true:=hs.2;unfold nA at hs;simp only[ai,au] at hs;obtain⟨_,_,hs⟩:=hs;rw[nN] at hs;have sP:∀ i,i<c.2.2.1.length->gI c.2.1 (qA c i)≥0/\BY (c.2.2.2.1.take i) (qA c i)=false:=λi hi=>(by have:=hs i hi;rw[aW] at this;unfold Ov at this;simp only[ai,au,bV] at this;exact⟨this.1,this.2.1⟩);have hn:c.2.2.2.1.Nodup:=gn.2 λi j hi hj QX e=>(by have h1:=(sP j (by omega)).2;have h2:BY (c.2.2.2.1.take j) (qA c j)=true:=(by rw[BZ];unfold qA;rw[aO _ _ hj,←e];exact bo.2 ⟨i,by rw[aH];omega,by rw[gw]⟩);rw[h1] at h2;cases h2);have hle:=MA c.2.2.2.1 (c.2.1.map λx:c8=>x.1) hn λx hx=>(by obtain⟨i,hi,rfl⟩:=bo.1 hx;have h1:=(sP i (by omega)).1;unfold qA at h1;rw[aO _ _ hi] at h1;obtain⟨k,hk,e,h2,_⟩:=fP (p:=λx:c8=>x.1==c.2.2.2.1[i]) (l:=c.2.1) (by unfold gI at h1;omega);exact cg.2 ⟨c.2.1[k],aK hk,by simpa using h2⟩);rw[aY] at hle;omega
 refine⟨t10,λx hx=>?_,j10,λx hx=>?_,r10,by omega,by omega,hm.1⟩
 ·obtain⟨i,hi,rfl⟩:=bo.1 hx;have:=htp i hi;unfold xE at this;simp only[ai,au] at this;exact this.2.2.2.2.2.1
 obtain⟨i,hi,rfl⟩:=bo.1 hx;have:=hjp i hi;unfold IN at this;simp only[ai,au] at this;exact(ajc this.2.2.2).2
theorem Small.okC {c:bE} {N:Nat} (h:Small c) (hN:300<N):cS c N:=by have hx:=aU;obtain⟨h1,h2,h3,h4,h5,h6,h7,h8⟩:=h;exact⟨by omega,λx hx=>by have:=h2 x hx;omega,by omega,by omega,λx hx=>by have:=h4 x hx;omega,by omega,by omega,by omega,by omega,by omega,by omega,by omega,by omega,by omega,by omega,by omega,λx hx=>by have:=h2 x hx;omega,by omega,λx hx=>by have:=h4 x hx;omega⟩
structure ago (c:bE) (N:Nat):Prop where
 ok:cS c N
 ok':cS c (N - 40)
 tb:c.1.length<=1048576
 tN:c.1.length+1<N
 jb:c.2.1.length<=1048576
 jN:c.2.1.length+1<N
 mN:c.2.2.2.2.2.1.length+1<N
 N2:200<N
theorem Small.evC {c:bE} {N:Nat} (h:Small c) (hN:400<N):ago c N:=
 ⟨h.okC (by omega),h.okC (by omega),by have:=h.t10;omega,by have:=h.t10;omega,by have:=h.j10;omega,by have:=h.j10;omega,by have:=h.aDI;omega,by omega⟩
def onB (b:Bool) (c:bE) (r:bE×Bool):bE×Bool:=bif b then r else(c,false)
def OC (c out:bE) (lL AS:Int):bE×Bool:=(xF c out lL AS,tM c out lL AS)
def nW (c:bE) (e:QL):bE×Bool:=bif e.1==1 then onB (decide (c.2.2.1.length=0)) c (OC c (J9 c e.2.1 e.2.2.1) 1 e.2.1) else bif e.1==2 then OC c (Ey c e.2.1 e.2.2.1) 2 e.2.1 else bif e.1==3 then pS c else bif e.1==4 then onB (Wc c e.2.2.2 e.2.1 e.2.2.1) c (OC c (SU c e.2.2.2 e.2.1 e.2.2.1) 4 (Qc c e.2.2.2 e.2.1 e.2.2.1).1) else bif e.1==5 then zP c else bif e.1==6 then onB (Qf c e.2.1) c (OC c (N0 c e.2.1) 6 e.2.1) else(c,false)
theorem aeY {b:Bool} {c:bE} {r:bE×Bool} {k:bE->Bool->aa}:(bif b then k r.1 r.2 else k c false)=k (onB b c r).1 (onB b c r).2:=by unfold onB;cases b<;>rfl
theorem Ut {N:Nat} {c:bE} {e:QL} {kf:bE->Bool->aa} (h:ago c N):uN N c e kf=kf (nW c e).1 (nW c e).2:=by
 unfold uN nW
 cases e.1==1
 rotate_left
 ·exact(Yv h.ok h.tb h.tN h.N2 h.mN).trans (aeY (c:=c) (r:=OC c (J9 c e.2.1 e.2.2.1) 1 e.2.1) (k:=kf))
 cases e.1==2
 rotate_left
 ·exact Wi h.ok h.jb h.jN h.N2 h.mN
 cases e.1==3
 rotate_left
 ·exact YD h.ok h.ok' h.N2 h.mN
 cases e.1==4
 rotate_left
 ·exact(Uj h.ok h.N2 h.mN).trans (aeY (c:=c) (r:=OC c (SU c e.2.2.2 e.2.1 e.2.2.1) 4 (Qc c e.2.2.2 e.2.1 e.2.2.1).1) (k:=kf))
 cases e.1==5
 rotate_left
 ·exact Wz h.ok h.N2 h.mN
 cases e.1==6
 rotate_left
 ·exact(Wg h.ok h.N2 h.mN).trans (aeY (c:=c) (r:=OC c (N0 c e.2.1) 6 e.2.1) (k:=kf))
 ·simp only[ae]
  rw[dE h.ok]
def Kept (c:bE) (r:bE×Bool):Prop:=(r.1=c/\r.2=false)∨(dm r.1=true/\r.2=true)
theorem EA (c out:bE) (lL AS:Int):Kept c (OC c out lL AS):=by
 unfold OC Kept xF;cases hd:tM c out lL AS with
 |false=>exact .inl ⟨rfl,rfl⟩
 |true=>unfold tM at hd;simp only[ai] at hd;exact .inr ⟨hd.2.2,rfl⟩
theorem Qp {b:Bool} {c:bE} {r:bE×Bool} (h:Kept c r):Kept c (onB b c r):=by
 unfold onB;cases b with
 |false=>exact .inl ⟨rfl,rfl⟩
 |true=>exact h
theorem ajd (c:bE) (e:QL):Kept c (nW c e):=by
 unfold nW
 cases e.1==1
 rotate_left
 ·exact Qp (EA _ _ _ _)
 cases e.1==2
 rotate_left
 ·exact EA _ _ _ _
 cases e.1==3
 rotate_left
 ·show Kept c (pS c)
  unfold pS
  cases Gs c.1 with
  |none=>exact .inl ⟨rfl,rfl⟩
  |some ps=>
   simp only[]
   cases B7 c.1 c.2.1 ps with
   |none=>exact .inl ⟨rfl,rfl⟩
   |some ss=>exact Qp (EA _ _ _ _)
 cases e.1==4
 rotate_left
 ·exact Qp (EA _ _ _ _)
 cases e.1==5
 rotate_left
 ·exact Qp (EA _ _ _ _)
 cases e.1==6
 rotate_left
 ·exact Qp (EA _ _ _ _)
 ·exact .inl ⟨rfl,rfl⟩
end Go.Pv.R
namespace Go.Pv.R
open List Int IntKind
def isStep (x:Int) (d:Nat):Option Nat:=bif pk x 0 5 then some (d+1) else bif (x== -1)&&decide (1<=d) then some d else bif pk x (-4) (-2)&&decide (2<=d) then some (d - 1) else none
def isG:List Int->Nat->Option Nat
 |[],d=>some d
 |x::r,d=>match isStep x d with
  |some d'=>isG r d'
  |none=>none
def Fx (r:List Int):Bool:=decide (r.length<=24)&&(isG r 0==some 1)
theorem I2 {x:Int} {d d':Nat} (h:isStep x d=some d'):1<=d'/\d'<=d+1:=by
 unfold isStep at h;cases h1:pk x 0 5 with
 |true=>rw[h1,ab] at h;injection h with h;omega
 |false=>
 rw[h1,ae] at h;cases h2:(x== -1)&&decide (1<=d) with
 |true=>rw[h2,ab] at h;injection h with h;simp only[ai,au] at h2;omega
 |false=>
 rw[h2,ae] at h;cases h3:pk x (-4) (-2)&&decide (2<=d) with
 |true=>rw[h3,ab] at h;injection h with h;simp only[ai,au] at h3;omega
 |false=>rw[h3] at h;cases h
theorem anq:∀ {r:List Int} {d d':Nat},isG r d=some d'->1<=d->1<=d'
 |[],d,d',h,h1=>by injection h with h;omega
 |x::r,d,d',h,h1=>by
  simp only[isG] at h;cases hs:isStep x d with
  |none=>rw[hs] at h;cases h
  |some e=>rw[hs] at h;exact anq h (I2 hs).1
theorem I3 {r:List Int} (h:Fx r=true):1<=r.length/\r.length<=24:=by
 unfold Fx at h;simp only[ai,au] at h;cases r with
 |nil=>have:=h.2;simp[isG] at this
 |cons x r=>simp only[ak] at h ⊢;omega
theorem aje {σ:Type} {body:Nat->Int->σ->(σ->aa)->aa} {dX:σ->aa} {no:aa} {dep:σ->Nat} {B:Nat} (hb:∀ (i:Nat) (x:Int) (s:σ),dep s<=B->(isStep x (dep s)=none->∀ next,body i x s next=no)/\∀ d',isStep x (dep s)=some d'->∃ s',dep s'=d'/\∀ next,body i x s next=next s'):∀ (r:List Int) (i:Nat) (s:σ),dep s+r.length<=B+1->(isG r (dep s)=none->dU body dX r i s=no)/\∀ d',isG r (dep s)=some d'->∃ s',dep s'=d'/\dU body dX r i s=dX s'
 |[],i,s,_=>⟨λh=>(by cases h),λd' h=>by injection h with h;exact⟨s,h,rfl⟩⟩
 |x::r,i,s,hB=>by
  simp only[ak] at hB;obtain⟨h1,h2⟩:=hb i x s (by omega);simp only[isG,dU];cases hs:isStep x (dep s) with
  |none=>exact⟨λ_=>h1 hs _,λd' h=>by cases h⟩
  |some d'=>obtain⟨s',e1,e2⟩:=h2 d' hs;have hp:=I2 hs;have:=aje (dX:=dX) hb r (i+1) s' (by omega);rw[e1] at this;rw[e2];exact this
theorem aoZ {σ:Type} {body:Nat->Int->σ->(σ->aa)->aa} {dX:σ->aa} {no:aa} (dep:σ->Nat) (B:Nat) (hb:∀ (i:Nat) (x:Int) (s:σ),dep s<=B->(isStep x (dep s)=none->∀ next,body i x s next=no)/\∀ d',isStep x (dep s)=some d'->∃ s',dep s'=d'/\∀ next,body i x s next=next s') (r:List Int) (i:Nat) (s:σ) (hB:dep s+r.length<=B+1) {Q:aa} (h1:isG r (dep s)=none->no=Q) (h2:∀ d' s',isG r (dep s)=some d'->dep s'=d'->dX s'=Q):dU body dX r i s=Q:=by
 obtain⟨k1,k2⟩:=aje (dX:=dX) hb r i s hB;cases hg:isG r (dep s) with
 |none=>rw[k1 hg];exact h1 hg
 |some d'=>obtain⟨s',e1,e2⟩:=k2 d' hg;rw[e2];exact h2 d' s' hg e1
theorem B8 {N:Nat} {r:List Int} {kf:Bool->aa} (hl:r.length<=1048576) (hN:r.length<N):wD N r kf=kf (Fx r):=by
 have hx:=aU;unfold wD;rw[RD (by omega) hN];have key:∀ (body:Nat->Int->Int->(Int->aa)->aa) (dX:Int->aa),(∀ (i:Nat) (x:Int) (d:Nat),d<=1048580->(isStep x d=none->∀ next,body i x (d:Int) next=kf false)/\∀ d',isStep x d=some d'->∀ next,body i x (d:Int) next=next (d':Int))->∀ (r:List Int) (i d:Nat),d+r.length<=1048580->dU body dX r i (d:Int)=match isG r d with |some d'=>dX (d':Int) |none=>kf false:=by
  intro body dX hb r;induction r with
  |nil=>intro i d _;rfl
  |cons x r ih=>
  intro i d hd;simp only[ak] at hd;obtain⟨h1,h2⟩:=hb i x d (by omega);simp only[isG,dU];cases hs:isStep x d with
  |none=>exact h1 hs _
  |some d'=>have hp:=I2 hs;rw[h2 d' hs];exact ih (i+1) d' (by omega)
 refine(key _ _ (λi x d hd=>?_) r 0 0 (by omega)).trans ?_
 ·simp only[ju];have w1:wrap .i64 ((d:Int)+1)=((d+1:Nat):Int):=iD;have w2:∀ h:2<=d,wrap .i64 ((d:Int) - 1)=((d - 1:Nat):Int):=λh=>by rw[iD];omega
  have c1:decide ((d:Int)≥1)=decide (1<=d):=ia.2 (by omega);have c2:decide ((d:Int)≥2)=decide (2<=d):=ia.2 (by omega);rw[w1,c1,c2];unfold isStep;cases pk x 0 5 with
  |true=>exact⟨λh=>(by cases h),λd' h next=>by injection h with h;subst h;rfl⟩
  |false=>
  simp only[ae];by_cases h2:2<=d
  ·rw[w2 h2,af h2,af (show 1<=d by omega)];cases x== -1<;>cases pk x (-4) (-2)<;>exact⟨λh=>(by first |exact λ_=>rfl |cases h),λd' h next=>by first |(injection h with h;subst h;rfl) |cases h⟩
  rw[an h2];cases decide (1<=d)<;>cases x== -1<;>cases pk x (-4) (-2)<;>exact⟨λh=>(by first |exact λ_=>rfl |cases h),λd' h next=>by first |(injection h with h;subst h;rfl) |cases h⟩
 unfold Fx;cases hg:isG r 0 with
 |none=>simp
 |some d'=>
 simp only[];by_cases h1:d'=1
 ·subst h1;have:(((1:Nat):Int)==1)=true:=rfl;rw[this,ab];congr 1;rw[show decide ((r.length:Int)<=24)=decide (r.length<=24) from ia.2 (by omega)];simp
 have:((d':Int)==1)=false:=by simp;omega
 have h2:(some d'==some 1)=false:=by simp[h1]
 rw[this,ae,h2,dN]
theorem adL {N:Nat} {a:Int} (ha:0<=a) (hN:70<N):∃ r,∀ kf:Int->aa,uQ N a kf=kf r:=by
 have key:∀ (k i n:Nat) (x:Int),i+k=64->k<n->∃ r,∀ kf:Int->aa,k9 a n kf x (i:Int)=kf r:=by
  intro k;induction k with
  |zero=>intro i n x hi hn;obtain⟨n,rfl⟩:∃ m,n=m+1:=⟨n - 1,by omega⟩;refine⟨x,λkf=>?_⟩;simp only[k9];rw[il];rfl
  |succ k ih=>
  intro i n x hi hn;obtain⟨n,rfl⟩:∃ m,n=m+1:=⟨n - 1,by omega⟩;have w1:wrap .i64 ((i:Int)+1)=((i+1:Nat):Int):=iD;simp only[k9];rw[af (show(i:Int)<64 by omega),af ha,af (show(0:Int)<=(i:Int) by omega),w1];simp only[ab];cases (wrap .i64 (BitVec.toNat (BitVec.ofInt (IntKind.bits .i64) (Int.fdiv (i:Int) (2^(min (toNat a) (IntKind.bits .i64))))&&&BitVec.ofInt (IntKind.bits .i64) (1:Int))))==(1:Int)
  ·exact ih (i+1) n _ (by omega) (by omega)
  exact ih (i+1) n _ (by omega) (by omega)
 exact key 64 0 N 0 (by omega) (by omega)
def opI (x a b:Int):Int:=bif x== -2 then wrap .u64 (BitVec.toNat (BitVec.ofInt (IntKind.bits .u64) a&&&BitVec.ofInt (IntKind.bits .u64) b)) else bif x== -3 then wrap .u64 (BitVec.toNat (BitVec.ofInt (IntKind.bits .u64) a|||BitVec.ofInt (IntKind.bits .u64) b)) else wrap .u64 (BitVec.toNat (BitVec.ofInt (IntKind.bits .u64) (TM .u64 a)|||BitVec.ofInt (IntKind.bits .u64) b))
def opS (x:Int) (s:List Int):List Int:=List.set (List.take (s.length - 1) s) (s.length - 2) (opI x (getD s (s.length - 2) 0) (getD s (s.length - 1) 0))
theorem avE {x:Int} {s:List Int} (h2:2<=s.length):(opS x s).length=s.length - 1:=by unfold opS;rw[bF,aH];omega
theorem asT {x:Int} {s:List Int} (h2:2<=s.length) (hB:s.length<=200) (next:List Int->aa) (no:aa):(bif (decide ((length s:Int)≥(2:Int))) then bif (bp (wrap .i64 ((length s:Int) - (2:Int))) (length s)) then bif (bp (wrap .i64 ((length s:Int) - (1:Int))) (length s)) then bif (decide ((0:Int)<=(0:Int))&&decide ((0:Int)<=(wrap .i64 ((length s:Int) - (1:Int))))&&decide ((wrap .i64 ((length s:Int) - (1:Int)))<=(length s:Int))) then bif (x==(-2:Int)) then bif (bp (wrap .i64 ((length s:Int) - (2:Int))) (length (List.take (toNat (wrap .i64 ((length s:Int) - (1:Int)))) s))) then next (List.set (List.take (toNat (wrap .i64 ((length s:Int) - (1:Int)))) s) (toNat (wrap .i64 ((length s:Int) - (2:Int)))) (wrap .u64 (BitVec.toNat (BitVec.ofInt (IntKind.bits .u64) (getD s (toNat (wrap .i64 ((length s:Int) - (2:Int)))) (0:Int))&&&BitVec.ofInt (IntKind.bits .u64) (getD s (toNat (wrap .i64 ((length s:Int) - (1:Int)))) (0:Int)))))) else none else bif (x==(-3:Int)) then bif (bp (wrap .i64 ((length s:Int) - (2:Int))) (length (List.take (toNat (wrap .i64 ((length s:Int) - (1:Int)))) s))) then next (List.set (List.take (toNat (wrap .i64 ((length s:Int) - (1:Int)))) s) (toNat (wrap .i64 ((length s:Int) - (2:Int)))) (wrap .u64 (BitVec.toNat (BitVec.ofInt (IntKind.bits .u64) (getD s (toNat (wrap .i64 ((length s:Int) - (2:Int)))) (0:Int))|||BitVec.ofInt (IntKind.bits .u64) (getD s (toNat (wrap .i64 ((length s:Int) - (1:Int)))) (0:Int)))))) else none else bif (bp (wrap .i64 ((length s:Int) - (2:Int))) (length (List.take (toNat (wrap .i64 ((length s:Int) - (1:Int)))) s))) then next (List.set (List.take (toNat (wrap .i64 ((length s:Int) - (1:Int)))) s) (toNat (wrap .i64 ((length s:Int) - (2:Int)))) (wrap .u64 (BitVec.toNat (BitVec.ofInt (IntKind.bits .u64) (TM .u64 (getD s (toNat (wrap .i64 ((length s:Int) - (2:Int)))) (0:Int)))|||BitVec.ofInt (IntKind.bits .u64) (getD s (toNat (wrap .i64 ((length s:Int) - (1:Int)))) (0:Int)))))) else none else none else none else none else no)=next (opS x s):=by
 have hx:=aU;have w1:wrap .i64 ((length s:Int) - 1)=((s.length - 1:Nat):Int):=by rw[iD];omega
 have w2:wrap .i64 ((length s:Int) - 2)=((s.length - 2:Nat):Int):=by rw[iD];omega
 have d3:(decide ((0:Int)<=(0:Int))&&decide ((0:Int)<=((s.length - 1:Nat):Int))&&decide (((s.length - 1:Nat):Int)<=(length s:Int)))=true:=by rw[dZ,dZ,dZ];rfl
 have lt:(List.take (s.length - 1) s).length=s.length - 1:=by rw[aH];omega
 simp only[w1,w2,d3,aj,af (show(length s:Int)≥2 by omega),aL (show s.length - 2<s.length by omega),aL (show s.length - 1<s.length by omega),aL (show s.length - 2<(List.take (s.length - 1) s).length by omega),ab];unfold opS opI;cases x== -2 with
 |true=>rfl
 |false=>cases x== -3<;>rfl
theorem Ke {N:Nat} {r:List Int} {kf:Bool->aa} (hl:r.length<=1048576) (hN:r.length+100<N):BD N r kf=kf (Fx r):=by
 have hx:=aU
 unfold BD tJ
 rw[eX]
 have lT:pk (r.length:Int) 1 24=decide (1<=r.length/\r.length<=24):=by
  rw[b7,mv,au];omega
 rw[lT]
 by_cases h24:1<=r.length/\r.length<=24
 rotate_left
 ·rw[an h24]
  have:Fx r=false:=by
   cases hf:Fx r with
   |false=>rfl
   |true=>exact absurd (I3 hf) h24
  rw[this];rfl
 ·rw[af h24]
  simp only[az,ae]
  rw[Mo (by omega) (by omega)]
  refine aoZ length 200 (no:=kf false) (λi x s hd=>?_) r 0 [] (by simp;omega) (λhg=>?_) (λd' s' hg e1=>?_)
  rotate_left
  ·have hg:isG r 0=none:=hg
   have:Fx r=false:=by unfold Fx;rw[hg];simp
   rw[this]
  ·have hg:isG r 0=some d':=hg
   have h0:1<=d':=by
    cases r with
    |nil=>simp at h24
    |cons x r=>
     simp only[isG] at hg
     cases hs:isStep x 0 with
     |none=>rw[hs] at hg;cases hg
     |some e=>rw[hs] at hg;exact anq hg (I2 hs).1
   rw[show bp (0:Int) (length s')=true from aL (i:=0) (by omega),ab,e1]
   congr 1
   unfold Fx
   rw[hg,af h24.2,aA,b7]
   simp only[bP,ah]
   omega
  ·simp only[eX]
   cases h5:pk x 0 5 with
   |true=>
    rw[mv] at h5
    obtain⟨rr,hr⟩:=adL (N:=N) h5.1 (by omega)
    have e:isStep x s.length=some (s.length+1):=by unfold isStep;rw[mv.2 h5];rfl
    rw[e]
    refine⟨λh=>(by cases h),λd' h=>⟨s++[rr],by injection h with h;rw[ax];exact h,λnext=>?_⟩⟩
    simp only[ab]
    rw[hr,af (by simp;omega)]
    rfl
   |false=>
    simp only[ae]
    have e0:isStep x s.length=bif (x== -1)&&decide (1<=s.length) then some s.length else bif pk x (-4) (-2)&&decide (2<=s.length) then some (s.length - 1) else none:=by unfold isStep;rw[h5];rfl
    rw[e0]
    by_cases h2:2<=s.length
    ·have l1:=avE (x:=x) h2
     have l2:=asT (x:=x) h2 hd
     have w1:wrap .i64 ((length s:Int) - 1)=((s.length - 1:Nat):Int):=by rw[iD];omega
     cases hm:x== -1 with
     |true=>
      rw[af (show 1<=s.length by omega)]
      refine⟨λh=>(by cases h),λd' h=>⟨List.set s (s.length - 1) (TM .u64 (getD s (s.length - 1) 0)),?_,λnext=>?_⟩⟩
      rotate_left
      ·simp only[ab]
       rw[af (show(length s:Int)≥1 by omega),w1,aL (show s.length - 1<s.length by omega)]
       rfl
      ·injection h with h;rw[bF];exact h
     |false=>
      simp only[ae,fi]
      cases pk x (-4) (-2) with
      |true=>
       rw[af h2]
       refine⟨λh=>(by cases h),λd' h=>⟨opS x s,by injection h with h;omega,λnext=>?_⟩⟩
       exact l2 next (kf false)
      |false=>exact⟨λ_ _=>rfl,λd' h=>(by cases h)⟩
    ·have w1:1<=s.length->wrap .i64 ((length s:Int) - 1)=((s.length - 1:Nat):Int):=λh=>by rw[iD];omega
     rw[an h2,an (show ¬(length s:Int)≥2 by omega)]
     simp only[dN,ae]
     by_cases h1:1<=s.length
     ·rw[af h1,af (show(length s:Int)≥1 by omega)]
      cases hm:x== -1 with
      |true=>
       refine⟨λh=>(by cases h),λd' h=>⟨List.set s (s.length - 1) (TM .u64 (getD s (s.length - 1) 0)),?_,λnext=>?_⟩⟩
       rotate_left
       ·simp only[ab]
        rw[w1 h1,aL (show s.length - 1<s.length by omega)]
        rfl
       ·injection h with h;rw[bF];exact h
      |false=>
       cases pk x (-4) (-2)<;>exact⟨λ_ _=>rfl,λd' h=>(by cases h)⟩
     ·rw[an h1,an (show ¬(length s:Int)≥1 by omega)]
      cases x== -1<;>cases pk x (-4) (-2)<;>exact⟨λ_ _=>rfl,λd' h=>(by cases h)⟩
end Go.Pv.R
namespace Go.Pv.R
open List Int IntKind
inductive Fm where
 |le (n:Nat)
 |no (t:Fm)
 |bi (o:Nat) (a b:Fm)
def okF:Fm->Prop
 | .le n=>n<6
 | .no t=>okF t
 | .bi o a b=>o<3/\okF a/\okF b
def Kf:Fm->List Int
 | .le n=>[(n:Int)]
 | .no t=>Kf t++[-1]
 | .bi o a b=>Kf a++Kf b++[-2 - (o:Int)]
def opB:Nat->UInt8
 |0=>38
 |1=>124
 |_=>62
def AO:Fm->List UInt8
 | .le n=>[UInt8.ofNat (97+n)]
 | .no t=>33::AO t
 | .bi o a b=>40::(AO a++(opB o::(AO b++[41])))
theorem N5:∀ t:Fm,(AO t).length+2<=4*(Kf t).length
 | .le n=>by simp[Kf,AO]
 | .no t=>by have:=N5 t;simp[Kf,AO];omega
 | .bi o a b=>by have:=N5 a;have:=N5 b;simp[Kf,AO];omega
def Qq:List Fm->List Int
 |[]=>[]
 |t::S=>Qq S++Kf t
theorem ajf:∀ (r:List Int) (S:List Fm) (d':Nat),(∀ t∈S,okF t)->isG r S.length=some d'->∃ S':List Fm,S'.length=d'/\(∀ t∈S',okF t)/\Qq S'=Qq S++r
 |[],S,d',hS,h=>by injection h with h;exact⟨S,h,hS,by simp⟩
 |x::r,S,d',hS,h=>by
  simp only[isG] at h;have fin:∀ (S1:List Fm),isStep x S.length=some S1.length->(∀ t∈S1,okF t)->Qq S1=Qq S++[x]->∃ S':List Fm,S'.length=d'/\(∀ t∈S',okF t)/\Qq S'=Qq S++x::r:=λS1 e1 e2 e3=>by rw[e1] at h;obtain⟨S',k1,k2,k3⟩:=ajf r S1 d' e2 h;exact⟨S',k1,k2,by rw[k3,e3];simp⟩
  cases h5:pk x 0 5 with
  |true=>
  have h6:=mv.1 h5;refine fin (.le x.toNat::S) (by unfold isStep;rw[h5];rfl) (λt ht=>?_) ?_
  ·rcases aS.1 ht with rfl |ht
   ·show x.toNat<6;omega
   exact hS t ht
  show Qq S++[(x.toNat:Int)]=_;rw[Int.toNat_of_nonneg h6.1]
  |false=>
  cases h1:(x== -1)&&decide (1<=S.length) with
  |true=>
   simp only[ai,bP,au] at h1;obtain⟨hx,hl⟩:=h1;subst hx;cases S with
   |nil=>simp at hl
   |cons t S=>
   refine fin (.no t::S) (by simp[isStep,pk]) (λu hu=>?_) ?_
   ·rcases aS.1 hu with rfl |hu
    ·exact hS t (by simp)
    exact hS u (by simp[hu])
   simp[Qq,Kf]
  |false=>
  cases h4:pk x (-4) (-2)&&decide (2<=S.length) with
  |true=>
   have h4':=h4
   simp only[ai,au] at h4
   have hx:=mv.1 h4.1
   match S,h4.2,hS,fin,h1,h4' with
   |b::a::S,_,hS,fin,h1,h4'=>
    refine fin (.bi (-2 - x).toNat a b::S) (by unfold isStep;rw[h5,h1,h4'];simp) (λu hu=>?_) ?_
    ·rcases aS.1 hu with rfl |hu
     ·exact⟨by omega,hS a (by simp),hS b (by simp)⟩
     ·exact hS u (by simp[hu])
    ·have:(-2:Int) - ((-2 - x).toNat:Int)=x:=by omega
     simp[Qq,Kf]
     omega
  |false=>unfold isStep at h;rw[h5,h1,h4] at h;cases h
theorem aeZ {r:List Int} (h:Fx r=true):∃ t,okF t/\Kf t=r:=by
 unfold Fx at h
 simp only[ai,au,bP] at h
 obtain⟨S,h1,h2,h3⟩:=ajf r [] 1 (λt ht=>by simp at ht) h.2
 match S,h1,h2,h3 with
 |[t],_,h2,h3=>exact⟨t,h2 t (by simp),by simpa[Qq] using h3⟩
theorem WB (a b:List UInt8):bY a++bY b=bY (a++b):=by apply adG;rw[Am];simp[bY]
theorem tp (a:List UInt8):(bY a).size=a.length:=by rw[Lib.size_eq,Am]
theorem asU {n:Nat} (h:n<6):ByteArray.extract kx n (n+1)=bY [UInt8.ofNat (97+n)]:=by
 rw[xw];have:n=0∨n=1∨n=2∨n=3∨n=4∨n=5:=by omega
 rcases this with rfl |rfl |rfl |rfl |rfl |rfl<;>rfl
structure agp (body:Nat->Int->List ByteArray->(List ByteArray->aa)->aa):Prop where
 le:∀ (i n:Nat) (s:List ByteArray) (next:List ByteArray->aa),n<6->s.length<=1000->body i (n:Int) s next=next (s++[bY [UInt8.ofNat (97+n)]])
 no:∀ (i:Nat) (s:List ByteArray) (w:List UInt8) (next:List ByteArray->aa),w.length<=1000->s.length<=1000->body i (-1) (s++[bY w]) next=next (s++[bY (33::w)])
 bi:∀ (i o:Nat) (s:List ByteArray) (u w:List UInt8) (next:List ByteArray->aa),o<3->u.length<=1000->w.length<=1000->s.length<=1000->body i (-2 - (o:Int)) (s++[bY u,bY w]) next=next (s++[bY (40::(u++(opB o::(w++[41]))))])
theorem Qr {body:Nat->Int->List ByteArray->(List ByteArray->aa)->aa} {dX:List ByteArray->aa} (hb:agp body):∀ (t:Fm) (rest:List Int) (i:Nat) (s:List ByteArray),okF t->(Kf t).length<=24->s.length+(Kf t).length<=900->dU body dX (Kf t++rest) i s=dU body dX rest (i+(Kf t).length) (s++[bY (AO t)])
 | .le n,rest,i,s,ho,h1,h2=>by show dU body dX ((n:Int)::rest) i s=_;simp only[dU];rw[hb.le i n s _ ho (by omega)];rfl
 | .no t,rest,i,s,ho,h1,h2=>by have hl:=N5 t;simp only[Kf,ax,ak,ao] at h1 h2 ⊢;rw[bu,Qr hb t _ i s ho (by omega) (by omega)];show dU body dX (-1::rest) _ _=_;simp only[dU];rw[hb.no _ _ _ _ (by omega) (by omega)];rfl
 | .bi o a b,rest,i,s,ho,h1,h2=>by have hl:=N5 a;have hl2:=N5 b;simp only[Kf,ax,ak,ao] at h1 h2 ⊢;rw[bu,bu,Qr hb a _ i s ho.2.1 (by omega) (by omega),Qr hb b _ _ _ ho.2.2 (by omega) (by simp;omega)];show dU body dX ((-2 - (o:Int))::rest) _ _=_;simp only[dU];rw[bu];show body _ _ (s++[bY (AO a),bY (AO b)]) _=_;rw[hb.bi _ _ _ _ _ _ ho.1 (by omega) (by omega) (by omega)];congr 1;omega
theorem anr {s:List ByteArray} {y:ByteArray}:(s++[y]).getD s.length ByteArray.empty=y:=by rw[aG,cG (aM _)];simp
theorem WC {s:List ByteArray} {y z:ByteArray}:(s++[y,z]).getD s.length ByteArray.empty=y/\(s++[y,z]).getD (s.length+1) ByteArray.empty=z:=by constructor<;>rw[aG,cG (by omega)]<;>simp
theorem ajg {s:List ByteArray} {y z:ByteArray}:(s++[y]).set s.length z=s++[z]:=by rw[nc _ _ (aM _)];simp
theorem axG {o:Nat} (h:o<3):([GJ,GK,GL]:List ByteArray).getD o ByteArray.empty=bY [opB o]/\ByteArray.extract gN o (o+1)=bY [opB o]:=by
 have:o=0∨o=1∨o=2:=by omega
 rcases this with rfl |rfl |rfl<;>exact⟨rfl,by rw[xw];rfl⟩
theorem agq:agp (λ(i:Nat) (x:Int) (ck:bG) (next:bG->aa)=> bif (decide (x≥(0:Int))) then bif (decide ((0:Int)<=x)&&decide (x<=(wrap .i64 (x+(1:Int))))&&decide ((wrap .i64 (x+(1:Int)))<=(ByteArray.size kx:Int))) then bif (decide ((length ck+length [(ByteArray.extract kx (toNat x) (toNat (wrap .i64 (x+(1:Int)))))])*1<=4398046511104)) then next (ck++[(ByteArray.extract kx (toNat x) (toNat (wrap .i64 (x+(1:Int)))))]) else none else none else bif (x==(-1:Int)) then bif (bp (wrap .i64 ((length ck:Int) - (1:Int))) (length ck)) then bif (decide (ByteArray.size JV+ByteArray.size (getD ck (toNat (wrap .i64 ((length ck:Int) - (1:Int)))) ByteArray.empty)<=9223372036854775807)) then bif (bp (wrap .i64 ((length ck:Int) - (1:Int))) (length ck)) then next (List.set ck (toNat (wrap .i64 ((length ck:Int) - (1:Int)))) (JV++(getD ck (toNat (wrap .i64 ((length ck:Int) - (1:Int)))) ByteArray.empty))) else none else none else none else bif (bp (wrap .i64 ((length ck:Int) - (2:Int))) (length ck)) then bif (decide (ByteArray.size nO+ByteArray.size (getD ck (toNat (wrap .i64 ((length ck:Int) - (2:Int)))) ByteArray.empty)<=9223372036854775807)) then bif (bp (wrap .i64 ((length ck:Int) - (1:Int))) (length ck)) then bif (bp (wrap .i64 ((wrap .i64 (0 - x)) - (2:Int))) (length [GJ,GK,GL])) then bif (decide (ByteArray.size (nO++(getD ck (toNat (wrap .i64 ((length ck:Int) - (2:Int)))) ByteArray.empty))+ByteArray.size (getD [GJ,GK,GL] (toNat (wrap .i64 ((wrap .i64 (0 - x)) - (2:Int)))) ByteArray.empty)<=9223372036854775807)) then bif (decide (ByteArray.size ((nO++(getD ck (toNat (wrap .i64 ((length ck:Int) - (2:Int)))) ByteArray.empty))++(getD [GJ,GK,GL] (toNat (wrap .i64 ((wrap .i64 (0 - x)) - (2:Int)))) ByteArray.empty))+ByteArray.size (getD ck (toNat (wrap .i64 ((length ck:Int) - (1:Int)))) ByteArray.empty)<=9223372036854775807)) then bif (decide (ByteArray.size (((nO++(getD ck (toNat (wrap .i64 ((length ck:Int) - (2:Int)))) ByteArray.empty))++(getD [GJ,GK,GL] (toNat (wrap .i64 ((wrap .i64 (0 - x)) - (2:Int)))) ByteArray.empty))++(getD ck (toNat (wrap .i64 ((length ck:Int) - (1:Int)))) ByteArray.empty))+ByteArray.size Af<=9223372036854775807)) then bif (decide ((0:Int)<=(0:Int))&&decide ((0:Int)<=(wrap .i64 ((length ck:Int) - (2:Int))))&&decide ((wrap .i64 ((length ck:Int) - (2:Int)))<=(length ck:Int))) then bif (decide ((length (List.take (toNat (wrap .i64 ((length ck:Int) - (2:Int)))) ck)+length [((((nO++(getD ck (toNat (wrap .i64 ((length ck:Int) - (2:Int)))) ByteArray.empty))++(getD [GJ,GK,GL] (toNat (wrap .i64 ((wrap .i64 (0 - x)) - (2:Int)))) ByteArray.empty))++(getD ck (toNat (wrap .i64 ((length ck:Int) - (1:Int)))) ByteArray.empty))++Af)])*1<=4398046511104)) then next ((List.take (toNat (wrap .i64 ((length ck:Int) - (2:Int)))) ck)++[((((nO++(getD ck (toNat (wrap .i64 ((length ck:Int) - (2:Int)))) ByteArray.empty))++(getD [GJ,GK,GL] (toNat (wrap .i64 ((wrap .i64 (0 - x)) - (2:Int)))) ByteArray.empty))++(getD ck (toNat (wrap .i64 ((length ck:Int) - (1:Int)))) ByteArray.empty))++Af)]) else none else none else none else none else none else none else none else none else none):=by
 have hx:=aU;refine⟨λi n s next hn hs=>?_,λi s w next hw hs=>?_,λi o s u w next ho hu hw hs=>?_⟩
 ·have w1:wrap .i64 ((n:Int)+1)=((n+1:Nat):Int):=iD;have sz:ByteArray.size kx=6:=rfl;have d0:decide ((n:Int)≥0)=true:=dZ;have d1:decide ((0:Int)<=(n:Int))=true:=dZ;have d2:decide ((n:Int)<=((n+1:Nat):Int))=true:=dZ;have d3:decide (((n+1:Nat):Int)<=((6:Nat):Int))=true:=dZ;have d4:decide ((s.length+length [bY [UInt8.ofNat (97+n)]])*1<=4398046511104)=true:=af (by simp only[ak,ao];omega);simp only[w1,sz,d0,d1,d2,d3,aj,asU hn,d4,ab,Bool.and_self]
 ·have w1:wrap .i64 ((length (s++[bY w]):Int) - 1)=((s.length:Nat):Int):=(by rw[ax,wrap64 (by simp<;>omega) (by simp<;>omega)];simp);have e1:JV=bY [33]:=rfl;have d0:decide ((-1:Int)≥0)=false:=(by decide);have d1:((-1:Int)== -1)=true:=(by decide);have d2:decide ([(33:UInt8)].length+w.length<=9223372036854775807)=true:=af (by simp only[ak,ao];omega);simp only[d0,d1,w1,aL (show s.length<(s++[bY w]).length by simp),aj,anr,ajg,e1,WB,tp,d2,ab,ae];rfl
 have w1:wrap .i64 ((length (s++[bY u,bY w]):Int) - 1)=((s.length+1:Nat):Int):=by rw[ax,wrap64 (by simp<;>omega) (by simp<;>omega)];simp<;>omega
 have w2:wrap .i64 ((length (s++[bY u,bY w]):Int) - 2)=((s.length:Nat):Int):=by rw[ax,wrap64 (by simp<;>omega) (by simp<;>omega)];simp
 have w3:wrap .i64 ((wrap .i64 (0 - (-2 - (o:Int)))) - 2)=(o:Int):=by rw[iD (n:=0 - (-2 - (o:Int))),iD];omega
 have e28:nO=bY [40]:=rfl;have e29:Af=bY [41]:=rfl;have ne1:((-2 - (o:Int))== -1)=false:=by simp<;>omega
 have d3:(decide ((0:Int)<=(0:Int))&&decide ((0:Int)<=((s.length:Nat):Int))&&decide (((s.length:Nat):Int)<=(length (s++[bY u,bY w]):Int)))=true:=by rw[dZ,dZ,af (by simp<;>omega)];rfl
 have tk:List.take s.length (s++[bY u,bY w])=s:=by simp
 rw[w1,w2,w3,an (show ¬(-2 - (o:Int))≥0 by omega),ne1,aL (show s.length<(s++[bY u,bY w]).length by simp),aL (show s.length+1<(s++[bY u,bY w]).length by simp),show bp (o:Int) (length [GJ,GK,GL])=true from aL ho,aj,aj,aj,WC.1,WC.2,(axG ho).1,e28,e29,d3,tk];simp only[WB,tp,ab,ae];rw[af (by simp<;>omega),af (by simp<;>omega),af (by simp<;>omega),af (by simp<;>omega),af (by simp<;>omega)];simp only[ab];congr 3;simp
theorem agr:agp (λ(i:Nat) (x:Int) (aE:bG) (next:bG->aa)=> bif (decide (x≥(0:Int))) then bif (decide ((0:Int)<=x)&&decide (x<=(wrap .i64 (x+(1:Int))))&&decide ((wrap .i64 (x+(1:Int)))<=(ByteArray.size kx:Int))) then bif (decide ((length aE+length [(ByteArray.extract kx (toNat x) (toNat (wrap .i64 (x+(1:Int)))))])*1<=4398046511104)) then next (aE++[(ByteArray.extract kx (toNat x) (toNat (wrap .i64 (x+(1:Int)))))]) else none else none else bif (x==(-1:Int)) then bif (bp (wrap .i64 ((length aE:Int) - (1:Int))) (length aE)) then bif (decide (ByteArray.size JV+ByteArray.size (getD aE (toNat (wrap .i64 ((length aE:Int) - (1:Int)))) ByteArray.empty)<=9223372036854775807)) then bif (bp (wrap .i64 ((length aE:Int) - (1:Int))) (length aE)) then next (List.set aE (toNat (wrap .i64 ((length aE:Int) - (1:Int)))) (JV++(getD aE (toNat (wrap .i64 ((length aE:Int) - (1:Int)))) ByteArray.empty))) else none else none else none else bif (bp (wrap .i64 ((length aE:Int) - (2:Int))) (length aE)) then bif (decide (ByteArray.size nO+ByteArray.size (getD aE (toNat (wrap .i64 ((length aE:Int) - (2:Int)))) ByteArray.empty)<=9223372036854775807)) then bif (decide ((0:Int)<=(wrap .i64 ((-2:Int) - x)))&&decide ((wrap .i64 ((-2:Int) - x))<=(wrap .i64 ((wrap .i64 ((-2:Int) - x))+(1:Int))))&&decide ((wrap .i64 ((wrap .i64 ((-2:Int) - x))+(1:Int)))<=(ByteArray.size gN:Int))) then bif (decide (ByteArray.size (nO++(getD aE (toNat (wrap .i64 ((length aE:Int) - (2:Int)))) ByteArray.empty))+ByteArray.size (ByteArray.extract gN (toNat (wrap .i64 ((-2:Int) - x))) (toNat (wrap .i64 ((wrap .i64 ((-2:Int) - x))+(1:Int)))))<=9223372036854775807)) then bif (bp (wrap .i64 ((length aE:Int) - (1:Int))) (length aE)) then bif (decide (ByteArray.size ((nO++(getD aE (toNat (wrap .i64 ((length aE:Int) - (2:Int)))) ByteArray.empty))++(ByteArray.extract gN (toNat (wrap .i64 ((-2:Int) - x))) (toNat (wrap .i64 ((wrap .i64 ((-2:Int) - x))+(1:Int))))))+ByteArray.size (getD aE (toNat (wrap .i64 ((length aE:Int) - (1:Int)))) ByteArray.empty)<=9223372036854775807)) then bif (decide (ByteArray.size (((nO++(getD aE (toNat (wrap .i64 ((length aE:Int) - (2:Int)))) ByteArray.empty))++(ByteArray.extract gN (toNat (wrap .i64 ((-2:Int) - x))) (toNat (wrap .i64 ((wrap .i64 ((-2:Int) - x))+(1:Int))))))++(getD aE (toNat (wrap .i64 ((length aE:Int) - (1:Int)))) ByteArray.empty))+ByteArray.size Af<=9223372036854775807)) then bif (bp (wrap .i64 ((length aE:Int) - (2:Int))) (length aE)) then bif (decide ((0:Int)<=(0:Int))&&decide ((0:Int)<=(wrap .i64 ((length aE:Int) - (1:Int))))&&decide ((wrap .i64 ((length aE:Int) - (1:Int)))<=(length (List.set aE (toNat (wrap .i64 ((length aE:Int) - (2:Int)))) ((((nO++(getD aE (toNat (wrap .i64 ((length aE:Int) - (2:Int)))) ByteArray.empty))++(ByteArray.extract gN (toNat (wrap .i64 ((-2:Int) - x))) (toNat (wrap .i64 ((wrap .i64 ((-2:Int) - x))+(1:Int))))))++(getD aE (toNat (wrap .i64 ((length aE:Int) - (1:Int)))) ByteArray.empty))++Af)):Int))) then next (List.take (toNat (wrap .i64 ((length aE:Int) - (1:Int)))) (List.set aE (toNat (wrap .i64 ((length aE:Int) - (2:Int)))) ((((nO++(getD aE (toNat (wrap .i64 ((length aE:Int) - (2:Int)))) ByteArray.empty))++(ByteArray.extract gN (toNat (wrap .i64 ((-2:Int) - x))) (toNat (wrap .i64 ((wrap .i64 ((-2:Int) - x))+(1:Int))))))++(getD aE (toNat (wrap .i64 ((length aE:Int) - (1:Int)))) ByteArray.empty))++Af))) else none else none else none else none else none else none else none else none else none):=by
 have hx:=aU;refine⟨λi n s next hn hs=>?_,λi s w next hw hs=>?_,λi o s u w next ho hu hw hs=>?_⟩
 ·have w1:wrap .i64 ((n:Int)+1)=((n+1:Nat):Int):=iD;have sz:ByteArray.size kx=6:=rfl;have d0:decide ((n:Int)≥0)=true:=dZ;have d1:decide ((0:Int)<=(n:Int))=true:=dZ;have d2:decide ((n:Int)<=((n+1:Nat):Int))=true:=dZ;have d3:decide (((n+1:Nat):Int)<=((6:Nat):Int))=true:=dZ;have d4:decide ((s.length+length [bY [UInt8.ofNat (97+n)]])*1<=4398046511104)=true:=af (by simp only[ak,ao];omega);simp only[w1,sz,d0,d1,d2,d3,aj,asU hn,d4,ab,Bool.and_self]
 ·have w1:wrap .i64 ((length (s++[bY w]):Int) - 1)=((s.length:Nat):Int):=(by rw[ax,wrap64 (by simp<;>omega) (by simp<;>omega)];simp);have e1:JV=bY [33]:=rfl;have d0:decide ((-1:Int)≥0)=false:=(by decide);have d1:((-1:Int)== -1)=true:=(by decide);have d2:decide ([(33:UInt8)].length+w.length<=9223372036854775807)=true:=af (by simp only[ak,ao];omega);simp only[d0,d1,w1,aL (show s.length<(s++[bY w]).length by simp),aj,anr,ajg,e1,WB,tp,d2,ab,ae];rfl
 have w1:wrap .i64 ((length (s++[bY u,bY w]):Int) - 1)=((s.length+1:Nat):Int):=by rw[ax,wrap64 (by simp<;>omega) (by simp<;>omega)];simp<;>omega
 have w2:wrap .i64 ((length (s++[bY u,bY w]):Int) - 2)=((s.length:Nat):Int):=by rw[ax,wrap64 (by simp<;>omega) (by simp<;>omega)];simp
 have w3:wrap .i64 ((-2:Int) - (-2 - (o:Int)))=(o:Int):=by rw[iD];omega
 have w4:wrap .i64 ((o:Int)+1)=((o+1:Nat):Int):=iD;have sz:ByteArray.size gN=3:=rfl;have d4:(decide ((0:Int)<=(o:Int))&&decide ((o:Int)<=((o+1:Nat):Int))&&decide (((o+1:Nat):Int)<=((3:Nat):Int)))=true:=by rw[dZ,dZ,dZ];rfl
 have e28:nO=bY [40]:=rfl;have e29:Af=bY [41]:=rfl;have ne1:((-2 - (o:Int))== -1)=false:=by simp<;>omega
 have d3:∀ z:ByteArray,(decide ((0:Int)<=(0:Int))&&decide ((0:Int)<=((s.length+1:Nat):Int))&&decide (((s.length+1:Nat):Int)<=(length ((s++[bY u,bY w]).set s.length z):Int)))=true:=λz=>by rw[dZ,dZ,af (by simp<;>omega)];rfl
 have tk:∀ z:ByteArray,List.take (s.length+1) ((s++[bY u,bY w]).set s.length z)=s++[z]:=λz=>by rw[nc _ _ (aM _),BW];show List.take (s.length+1) (s++[z,bY w])=_;rw[show s++[z,bY w]=(s++[z])++[bY w] by simp,List.take_left' (by simp)]
 simp only[w1,w2,w3,w4,sz,d4,an (show ¬(-2 - (o:Int))≥0 by omega),ne1,aL (show s.length<(s++[bY u,bY w]).length by simp),aL (show s.length+1<(s++[bY u,bY w]).length by simp),aj,WC.1,WC.2,(axG ho).2,e28,e29,d3,tk,WB,tp,ab,ae];rw[af (by simp<;>omega),af (by simp<;>omega),af (by simp<;>omega),af (by simp<;>omega)];simp only[ab];congr 3;simp
theorem alJ {N:Nat} {r:List Int} {kf:ByteArray->aa} (hl:r.length<=1048576) (hN:r.length<N) (hf:Fx r=false):pN N r kf=kf D9:=by unfold pN;rw[B8 hl hN,hf];rfl
theorem alK {N:Nat} {r:List Int} {kf:ByteArray->aa} (hl:r.length<=1048576) (hN:r.length+100<N) (hf:Fx r=false):pP N r kf=kf D9:=by unfold pP;rw[Ke hl hN,hf];rfl
theorem ZH {N:Nat} {t:Fm} {kf:ByteArray->aa} (ht:okF t) (hf:Fx (Kf t)=true) (hN:(Kf t).length<N):pN N (Kf t) kf=kf (bY (AO t)):=by have hx:=aU;have h24:=I3 hf;unfold pN;rw[B8 (by omega) hN,hf];simp only[az,ae];rw[OY (by omega) hN];have:=Qr (dX:=λ(ck:List ByteArray)=>bif (bp (0:Int) (length ck)) then kf (getD ck (toNat (0:Int)) ByteArray.empty) else none) agq t [] 0 [] ht (by omega) (by simp;omega);rw[b6] at this;exact this.trans rfl
theorem ZI {N:Nat} {t:Fm} {kf:ByteArray->aa} (ht:okF t) (hf:Fx (Kf t)=true) (hN:(Kf t).length+100<N):pP N (Kf t) kf=kf (bY (AO t)):=by have hx:=aU;have h24:=I3 hf;unfold pP;rw[Ke (by omega) hN,hf];simp only[az,ae];rw[O4 (by omega) (by omega)];have:=Qr (dX:=λ(aE:List ByteArray)=>bif (bp (0:Int) (length aE)) then kf (getD aE (toNat (0:Int)) ByteArray.empty) else none) agr t [] 0 [] ht (by omega) (by simp;omega);rw[b6] at this;exact this.trans rfl
end Go.Pv.R
namespace Go.Pv.R
open List Int IntKind
theorem azP {s:ByteArray} {i:Nat} (h:i<s.size) (h':i<s.data.toList.length):bt s (i:Int)=((s.data.toList[i]).toNat:Int):=by unfold bt;rw[jc (by simpa using h)];simp only[aj];congr 2
theorem Kg {s:ByteArray} {i:Nat} {b:UInt8} {r:List UInt8} (h:s.data.toList.drop i=b::r):i<s.size/\bt s (i:Int)=(b.toNat:Int)/\s.data.toList.drop (i+1)=r:=by
 have gC:i<s.data.toList.length:=by have:=br length h;simp at this;simp;omega
 have rz:i<s.size:=by rw[Lib.size_eq];exact gC
 have h0:=h;rw[aT gC] at h;injection h with h1 h2;exact⟨rz,by rw[azP rz gC,h1],h2⟩
theorem ant {n:Nat} (h:n<6):((UInt8.ofNat (97+n)).toNat:Int)=97+(n:Int):=by
 have:n=0∨n=1∨n=2∨n=3∨n=4∨n=5:=by omega
 rcases this with rfl |rfl |rfl |rfl |rfl |rfl<;>rfl
theorem HX {s:ByteArray} (hs:s.size<=1000):∀ (t:Fm) (N i:Nat) (rest:List UInt8) (kf:List Int->Int->aa),okF t->s.data.toList.drop i=AO t++rest->(Kf t).length<N->(Kf t).length<=1000->S38 N s (i:Int) kf=kf (Kf t) ((i+(AO t).length:Nat):Int)
 |t,0,i,rest,kf,ht,hd,hN,hr=>by omega
 | .le n,N+1,i,rest,kf,ht,hd,hN,hr=>by obtain⟨h1,h2,h3⟩:=Kg (b:=UInt8.ofNat (97+n)) (r:=rest) hd;have hn:n<6:=ht;show PM (S38 N) N s (i:Int) kf=_;unfold PM;have e:wrap .u8 ((97+(n:Int)) - 97)=(n:Int):=(by have:n=0∨n=1∨n=2∨n=3∨n=4∨n=5:=(by omega);rcases this with rfl |rfl |rfl |rfl |rfl |rfl<;>rfl);rw[il,ae,aL h1,ab,h2,ant hn,dZ,ab,dZ,e,iD (n:=(n:Int)),iD (n:=(i:Int)+1)];rfl
 | .no t,N+1,i,rest,kf,ht,hd,hN,hr=>by obtain⟨h1,h2,h3⟩:=Kg (b:=33) (r:=AO t++rest) hd;simp only[Kf,ax,ak,ao] at hN hr;have ih:=λkf=>HX hs t N (i+1) rest kf ht h3 (by omega) (by omega);have hl:=N5 t;show PM (S38 N) N s (i:Int) kf=_;unfold PM;have b33:((33:UInt8).toNat:Int)=33:=rfl;have w1:wrap .i64 ((i:Int)+1)=((i+1:Nat):Int):=iD;rw[il,ae,aL h1,ab,h2,b33,il,ae,ab,show((33:Int)==33)=true from rfl,ab,w1,ih,af (by simp only[ak,ao];omega),ab];simp only[Kf,AO,ak];congr 2;omega
 | .bi o a b,N+1,i,rest,kf,ht,hd,hN,hr=>by
  obtain⟨h1,h2,h3⟩:=Kg (b:=40) (r:=AO a++(opB o::(AO b++(41::rest)))) (by rw[hd];simp[AO]);simp only[Kf,ax,ak,ao] at hN hr;have iha:=λkf=>HX hs a N (i+1) _ kf ht.2.1 h3 (by omega) (by omega);obtain⟨k1,k2,k3⟩:=Kg (i:=i+1+(AO a).length) (b:=opB o) (r:=AO b++(41::rest)) (by rw[←dO,h3,df]);have ihb:=λkf=>HX hs b N (i+1+(AO a).length+1) _ kf ht.2.2 k3 (by omega) (by omega);obtain⟨m1,m2,m3⟩:=Kg (i:=i+1+(AO a).length+1+(AO b).length) (b:=41) (r:=rest) (by rw[←dO,k3,df]);have b40:((40:UInt8).toNat:Int)=40:=rfl;have b41:((41:UInt8).toNat:Int)=41:=rfl;have w1:wrap .i64 ((i:Int)+1)=((i+1:Nat):Int):=iD;have w2:wrap .i64 (((i+1+(AO a).length:Nat):Int)+1)=((i+1+(AO a).length+1:Nat):Int):=iD;have w3:wrap .i64 (((i+1+(AO a).length+1+(AO b).length:Nat):Int)+1)=((i+1+(AO a).length+1+(AO b).length+1:Nat):Int):=iD;have jj:∀ y:Int,y≠0->D' (S38 N) s kf (Kf a) ((i+1+(AO a).length:Nat):Int) y=kf ((Kf a++Kf b)++[y]) ((i+1+(AO a).length+1+(AO b).length+1:Nat):Int):=λy hy=>(by unfold D';rw[w2,ihb];have y0:(y==0)=false:=bw.2 hy;rw[y0,ae,il,ae,il,ae,aL m1,ab,m2,b41,show((41:Int) != 41)=false from rfl,ae,dZ,ab,af (by simp only[ax,ak,ao];omega),ab,w3]);show PM (S38 N) N s (i:Int) kf=_;unfold PM;rw[il,ae,aL h1,ab,h2,b40,il,ae,ab,show((40:Int)==33)=false from rfl,ae,ab,show((40:Int)==40)=true from rfl,ab,w1,iha,il,ae,il,ae,aL k1,ab,k2,jj (-2) (by decide),jj (-3) (by decide),jj (-4) (by decide)];have fin:∀ y:Int,y=-2 - (o:Int)->kf ((Kf a++Kf b)++[y]) ((i+1+(AO a).length+1+(AO b).length+1:Nat):Int)=kf (Kf (.bi o a b)) ((i+(AO (.bi o a b)).length:Nat):Int):=λy hy=>by
   subst hy;have:i+1+(AO a).length+1+(AO b).length+1=i+(AO (.bi o a b)).length:=by simp[AO];omega
   rw[this];rfl
  have ho:o=0∨o=1∨o=2:=(by have:=ht.1;omega);rcases ho with rfl |rfl |rfl
  ·exact fin _ rfl
  ·exact fin _ rfl
  exact fin _ rfl
end Go.Pv.R
namespace Go.Pv.R
open List Int IntKind
theorem acH {N:Nat} {a b c:List Int} {kf:List Int->aa} (ha:a.length<=1048700) (hb:b.length<=1048700) (hc:c.length<=1048700) (hN:3<N):mh N [a,b,c] kf=kf (a++b++c):=by
 have hm:=aU;unfold mh;rw[BV (by simp;omega) (by simpa using hN)];simp only[dU];rw[iD (n:=(0:Int)+(length a:Int)),il,ae,iD (n:=(0:Int)+(length a:Int)+(length b:Int)),il,ae,iD (n:=(0:Int)+(length a:Int)+(length b:Int)+(length c:Int)),il,ae];unfold avd;have e:(List.isEmpty ([]:List Int)&&(decide ((0:Int)<=0+(length a:Int)+(length b:Int)+(length c:Int))&&decide (0+(length a:Int)+(length b:Int)+(length c:Int)<=(549755813888:Int))))=true:=by rw[dZ,dZ];rfl
 rw[e,ab];show eP [a,b,c] (length [a,b,c]:Int) N kf [] 0=_;rw[Al (by simp;omega) (by simpa using hN)];simp only[dU];rw[af (by simp;omega),ab,af (by simp;omega),ab,af (by simp;omega),ab];rfl
theorem wV {b:UInt8} {r:List UInt8}:(ByteArray.toList (bY (b::r))==ByteArray.toList D9)=false:=by refine bw.2 λh=>?_;rw[gm,gm,Am] at h;cases h
theorem Rr:(ByteArray.toList (bY [])==ByteArray.toList D9)=true:=by rw[bP,gm,gm];rfl
theorem Ao {b:UInt8} {r:List UInt8}:bp (0:Int) (ByteArray.size (bY (b::r)))=true/\bt (bY (b::r)) 0=(b.toNat:Int)/\ByteArray.extract (bY (b::r)) (toNat 1) (toNat (ByteArray.size (bY (b::r)):Int))=bY r/\(decide ((0:Int)<=(1:Int))&&decide ((1:Int)<=(ByteArray.size (bY (b::r)):Int))&&decide ((ByteArray.size (bY (b::r)):Int)<=(ByteArray.size (bY (b::r)):Int)))=true:=by
 obtain⟨h1,h2,h3⟩:=Kg (s:=bY (b::r)) (i:=0) (b:=b) (r:=r) (by rw[Am];rfl);refine⟨aL (i:=0) h1,h2,?_,?_⟩
 ·rw[aj,xw,Am,tp];congr 1;simp
 rw[dZ,dZ,dZ];rfl
theorem HY:∀ (t:Fm) (N:Nat) (rest:List UInt8) (kf:List Int->ByteArray->Bool->aa),okF t->(Kf t).length+5<N->(Kf t).length<=1000->adC N (bY (AO t++rest)) kf=kf (Kf t) (bY rest) true
 |t,0,rest,kf,ht,hN,hr=>by omega
 | .le n,N+1,rest,kf,ht,hN,hr=>by have hn:n<6:=ht;show IC (adC N) N (bY (UInt8.ofNat (97+n)::rest)) kf=_;obtain⟨p1,p2,p3,p4⟩:=Ao (b:=UInt8.ofNat (97+n)) (r:=rest);unfold IC;have f1:((97+(n:Int))==33)=false:=(by simp;omega);have f2:((97+(n:Int))==40)=false:=(by simp;omega);rw[wV,ae,p1,ab,p2,ant hn,f1,ae,ab,f2,ae,ab,p4,ab,p3,iD (n:=97+(n:Int)),iD];show kf [97+(n:Int) - 97] _ _=kf [(n:Int)] _ _;congr 2;omega
 | .no t,N+1,rest,kf,ht,hN,hr=>by simp only[Kf,ax,ak,ao] at hN hr;show IC (adC N) N (bY (33::(AO t++rest))) kf=_;obtain⟨p1,p2,p3,p4⟩:=Ao (b:=33) (r:=AO t++rest);have b33:((33:UInt8).toNat:Int)=33:=rfl;unfold IC;rw[wV,ae,p1,ab,p2,b33,show((33:Int)==33)=true from rfl,ab,p4,ab,p3,HY t N rest _ ht (by omega) (by omega),af (by simp only[ak,ao];omega),ab];rfl
 | .bi o a b,N+1,rest,kf,ht,hN,hr=>by
  simp only[Kf,ax,ak,ao] at hN hr;have ed:AO (.bi o a b)++rest=40::(AO a++(opB o::(AO b++(41::rest)))):=by simp[AO]
  rw[ed];show IC (adC N) N (bY (40::(AO a++(opB o::(AO b++(41::rest)))))) kf=_;obtain⟨p1,p2,p3,p4⟩:=Ao (b:=40) (r:=AO a++(opB o::(AO b++(41::rest))));obtain⟨q1,q2,q3,q4⟩:=Ao (b:=opB o) (r:=AO b++(41::rest));obtain⟨r1,r2,r3,r4⟩:=Ao (b:=41) (r:=rest);have b40:((40:UInt8).toNat:Int)=40:=rfl;have b41:((41:UInt8).toNat:Int)=41:=rfl;have fp:LP gN ((opB o).toNat:Int)=(o:Int):=(by have ho:o=0∨o=1∨o=2:=(by have:=ht.1;omega);rcases ho with rfl |rfl |rfl<;>rfl);unfold IC;rw[wV,ae,p1,ab,p2,b40,show((40:Int)==33)=false from rfl,ae,ab,show((40:Int)==40)=true from rfl,ab,p4,ab,p3,HY a N _ _ ht.2.1 (by omega) (by omega)];simp only[az,ae];rw[wV,ae,q1,ab];unfold avc;simp only[q2,fp];rw[q4,ab,q3,HY b N _ _ ht.2.2 (by omega) (by omega),il,ae];simp only[az,ae];rw[wV,ae,r1,ab,r2,b41,show((41:Int) != 41)=false from rfl,ae,r4,ab,acH (by omega) (by omega) (by simp) (by omega),r3,wrap64 (by have:=ht.1;omega) (by have:=ht.1;omega)];rfl
end Go.Pv.R
namespace Go.Pv.R
open List Int IntKind
theorem j12: @abA=@D':=rfl
def ae0 (s:ByteArray) (i:Nat) (r:List Int) (p:Int):Prop:=(∃ q:Nat,p=(q:Int)/\i<q/\q<=s.size/\r.length+i<=q)∨(p=-1/\r.length+i<=s.size)
theorem HZ {s:ByteArray} {i:Nat} (h:i<=s.size):ae0 s i [] (-1):=.inr ⟨rfl,by simpa using h⟩
theorem S4 {s:ByteArray} (hs:s.size<=1000):∀ (N i:Nat),i<=s.size->s.size<N+i->∃ r p,(∀ kf,S38 N s (i:Int) kf=kf r p)/\ae0 s i r p
 |0,i,h1,h2=>by omega
 |N+1,i,h1,h2=>by
  have hx:=aU;have ih:=S4 hs N;by_cases hi:i=s.size
  ·refine⟨[],-1,λkf=>?_,HZ h1⟩;show PM (S38 N) N s (i:Int) kf=_;unfold PM;rw[dZ];rfl
  have gC:i<s.size:=(by omega);have w1:wrap .i64 ((i:Int)+1)=((i+1:Nat):Int):=iD;obtain⟨ra,pa,ea,ga⟩:=ih (i+1) (by omega) (by omega);have jj:∀ (q:Nat) (y:Int),pa=(q:Int)->q<s.size->∃ r p,(∀ kf,D' (S38 N) s kf ra (q:Int) y=kf r p)/\ae0 s i r p:=λq y hq hqs=>by
   have hqa:i+1<q/\ra.length+(i+1)<=q:=by
    rcases ga with⟨q',e1,e2,e3,e4⟩ |⟨e1,_⟩
    ·omega
    omega
   obtain⟨rb,pb,eb,gb⟩:=ih (q+1) (by omega) (by omega);have w2:wrap .i64 ((q:Int)+1)=((q+1:Nat):Int):=iD;have no:∀ (A:(List Int->Int->aa)->aa),(∀ kf,A kf=kf [] (-1))->∃ r p,(∀ kf,A kf=kf r p)/\ae0 s i r p:=λA h=>⟨[],-1,h,HZ h1⟩;unfold D';simp only[w2,eb];cases y==0 with
   |true=>exact⟨[],-1,λkf=>rfl,HZ h1⟩
   |false=>
    rcases gb with⟨q2,e1,e2,e3,e4⟩ |⟨e1,_⟩
    rotate_left
    ·subst e1;exact⟨[],-1,λkf=>rfl,HZ h1⟩
    subst e1
    rw[an (show ¬(q2:Int)<0 by omega)]
    by_cases h2:q2=s.size
    ·refine⟨[],-1,λkf=>?_,HZ h1⟩
     rw[dZ]
     rfl
    ·rw[an (show ¬(q2:Int)≥(s.size:Int) by omega),aL (show q2<s.size by omega)]
     cases hb:(bt s (q2:Int) != 41) with
     |true=>exact⟨[],-1,λkf=>rfl,HZ h1⟩
     |false=>
      have w3:wrap .i64 ((q2:Int)+1)=((q2+1:Nat):Int):=iD
      refine⟨(ra++rb)++[y],((q2+1:Nat):Int),λkf=>?_,.inl ⟨q2+1,rfl,by omega,by omega,by simp only[ax,ak,ao];omega⟩⟩
      simp only[ab,ae]
      rw[dZ,ab,af (by simp only[ax,ak,ao];omega),ab,w3]
  have tail:∃ r p,(∀ kf,(bif ((bt s (i:Int))==(33:Int)) then
      S38 N s ((i+1:Nat):Int) (λ(ah9:aq) (aq8:Int)=>
       bif (decide ((length ah9+length [(-1:Int)])*1<=4398046511104)) then
        kf (ah9++[(-1:Int)]) aq8
       else none)
     else
       bif ((bt s (i:Int))==(40:Int)) then
        S38 N s ((i+1:Nat):Int) (λ(Ea:aq) (qb:Int)=>
         bif (decide (qb<(0:Int))) then
          kf ([]:aq) (-1:Int)
         else
          bif (decide (qb≥(ByteArray.size s:Int))) then
           kf ([]:aq) (-1:Int)
          else
           bif (bp qb (ByteArray.size s)) then
            bif ((bt s qb)==(38:Int)) then
             D' (S38 N) s kf Ea qb (-2:Int)
            else
             bif ((bt s qb)==(124:Int)) then
              D' (S38 N) s kf Ea qb (-3:Int)
             else
              bif ((bt s qb)==(62:Int)) then
               D' (S38 N) s kf Ea qb (-4:Int)
              else
               D' (S38 N) s kf Ea qb (0:Int)
           else none)
       else
        kf ([]:aq) (-1:Int))=kf r p)/\ae0 s i r p:=by
   have hla:ra.length<=1000:=by
    rcases ga with⟨q',e1,e2,e3,e4⟩ |⟨e1,e2⟩<;>omega
   simp only[ea]
   cases bt s (i:Int)==33 with
   |true=>
    refine⟨ra++[-1],pa,λkf=>?_,?_⟩
    ·rw[af (by simp only[ak,ao];omega)];rfl
    ·rcases ga with⟨q',e1,e2,e3,e4⟩ |⟨e1,e2⟩
     ·exact .inl ⟨q',e1,by omega,e3,by simp only[ax,ak,ao];omega⟩
     ·exact .inr ⟨e1,by simp only[ax,ak,ao];omega⟩
   |false=>
    cases bt s (i:Int)==40 with
    |false=>exact⟨[],-1,λkf=>rfl,HZ h1⟩
    |true=>
     simp only[ab,ae]
     rcases ga with⟨q,e1,e2,e3,e4⟩ |⟨e1,e2⟩
     rotate_left
     ·subst e1;exact⟨[],-1,λkf=>rfl,HZ h1⟩
     subst e1
     rw[an (show ¬(q:Int)<0 by omega)]
     by_cases h2:q=s.size
     ·refine⟨[],-1,λkf=>?_,HZ h1⟩
      rw[dZ]
      rfl
     ·rw[an (show ¬(q:Int)≥(s.size:Int) by omega),aL (show q<s.size by omega)]
      cases bt s (q:Int)==38
      rotate_left
      ·exact jj q _ rfl (by omega)
      cases bt s (q:Int)==124
      rotate_left
      ·exact jj q _ rfl (by omega)
      cases bt s (q:Int)==62
      rotate_left
      ·exact jj q _ rfl (by omega)
      ·exact jj q _ rfl (by omega)
  show ∃ r p,(∀ kf,PM (S38 N) N s (i:Int) kf=kf r p)/\ae0 s i r p;unfold PM;rw[j12];simp only[an (show ¬(i:Int)≥(s.size:Int) by omega),aL gC,ab,ae,w1];cases decide (bt s (i:Int)≥97) with
  |false=>exact tail
  |true=>
  cases decide (bt s (i:Int)<=102) with
  |false=>exact tail
  |true=>exact⟨_,_,λkf=>rfl,.inl ⟨i+1,rfl,by omega,by omega,by simp only[ak,ao];omega⟩⟩
theorem S5:∀ (N:Nat) (D:List UInt8),D.length<=1000->D.length+5<N->∃ r rest b,(∀ kf,adC N (bY D) kf=kf r (bY rest) b)/\r.length+rest.length<=D.length
 |0,D,h1,h2=>by omega
 |N+1,D,h1,h2=>by
  have hx:=aU;have ih:=S5 N;show ∃ r rest b,(∀ kf,IC (adC N) N (bY D) kf=kf r (bY rest) b)/\r.length+rest.length<=D.length;unfold IC;have no:∀ {A:(List Int->ByteArray->Bool->aa)->aa},(∀ kf,A kf=kf [] D9 false)->∃ r rest b,(∀ kf,A kf=kf r (bY rest) b)/\r.length+rest.length<=D.length:=λh=>⟨[],[],false,h,by simp⟩;cases D with
  |nil=>rw[Rr];exact no λkf=>rfl
  |cons c D=>
  simp only[ak] at h1 h2 ⊢;obtain⟨p1,p2,p3,p4⟩:=Ao (b:=c) (r:=D);obtain⟨ra,sa,ba,ea,ga⟩:=ih D (by omega) (by omega);simp only[wV,p1,p2,p3,p4,ea,ab,ae];cases (c.toNat:Int)==33 with
  |true=>refine⟨ra++[-1],sa,ba,λkf=>?_,by simp only[ax,ak,ao];omega⟩;rw[af (by simp only[ak,ao];omega)];rfl
  |false=>
  cases (c.toNat:Int)==40 with
  |false=>exact⟨_,D,true,λkf=>rfl,by simp only[ak,ao];omega⟩
  |true=>
  simp only[ab,ae];cases ba with
  |false=>exact no λkf=>rfl
  |true=>
  simp only[az,ae];cases sa with
  |nil=>rw[Rr];exact no λkf=>rfl
  |cons o sa=>
  simp only[ak] at ga;obtain⟨q1,q2,q3,q4⟩:=Ao (b:=o) (r:=sa);obtain⟨rb,sb,bb,eb,gb⟩:=ih sa (by omega) (by omega);unfold avc;simp only[wV,q1,q2,q3,q4,eb,ab,ae];cases decide (LP gN (o.toNat:Int)<0) with
  |true=>exact no λkf=>rfl
  |false=>
  simp only[ae];cases bb with
  |false=>exact no λkf=>rfl
  |true=>
  simp only[az,ae];cases sb with
  |nil=>rw[Rr];exact no λkf=>rfl
  |cons z sb=>
  simp only[ak] at gb;obtain⟨r1,r2,r3,r4⟩:=Ao (b:=z) (r:=sb);simp only[wV,r1,r2,r3,r4,ab,ae];cases (z.toNat:Int) != 41 with
  |true=>exact no λkf=>rfl
  |false=>refine⟨ra++rb++[wrap .i64 ((-2:Int) - LP gN (o.toNat:Int))],sb,true,λkf=>?_,by simp only[ax,ak,ao];omega⟩;simp only[ae];rw[acH (by omega) (by omega) (by simp) (by omega)]
end Go.Pv.R
namespace Go.Pv.R
open List Int IntKind
def asV (s:ByteArray) (t:Fm):Prop:=okF t/\Fx (Kf t)=true/\s=bY (AO t)
theorem WD {a b:ByteArray}:(ByteArray.toList a==ByteArray.toList b)=true↔a=b:=by rw[bP,gm,gm];exact⟨λh=>adG h,λh=>by rw[h]⟩
theorem asW (t:Fm):∃ b r,AO t=b::r:=by
 cases t with
 |le n=>exact⟨_,_,rfl⟩
 |no t=>exact⟨_,_,rfl⟩
 |bi o a b=>exact⟨_,_,rfl⟩
theorem ajh {N:Nat} {s:ByteArray} {t:Fm} {kf:List Int->Bool->aa} (h:asV s t) (hN:200<N):fW N s kf=kf (Kf t) true:=by
 obtain⟨ho,hf,rfl⟩:=h;have h24:=I3 hf;have hl:=N5 t;have rz:=tp (AO t);unfold fW;have hr:=λkf=>HX (s:=bY (AO t)) (by omega) t N 0 [] kf ho (by rw[Am,b6];rfl) (by omega) (by omega);simp only[aW] at hr;rw[il,ae,show(0:Int)=((0:Nat):Int) from rfl,hr,rz];have e:(((AO t).length:Int) != ((AO t).length:Int))=false:=by simp
 rw[e,ae,ZH ho hf (by omega)];obtain⟨b,r,hb⟩:=asW t;rw[hb,wV];simp
theorem aji {N:Nat} {s:ByteArray} {t:Fm} {kf:List Int->Bool->aa} (h:asV s t) (hN:200<N):jY N s kf=kf (Kf t) true:=by obtain⟨ho,hf,rfl⟩:=h;have h24:=I3 hf;have hl:=N5 t;have rz:=tp (AO t);unfold jY;have hr:=λkf=>HY t N [] kf ho (by omega) (by omega);rw[b6] at hr;rw[il,ae,hr,Rr];simp only[az,ae];rw[ZI ho hf (by omega)];simp
theorem alL {N:Nat} {s:ByteArray} {kf:List Int->Bool->aa} (h:∀ t,¬asV s t) (hN:2000<N):fW N s kf=kf [] false:=by
 unfold fW
 by_cases hs:s.size<=200
 rotate_left
 ·rw[dZ];rfl
 obtain⟨r,p,hr,hg⟩:=S4 (s:=s) (by omega) N 0 (by omega) (by omega)
 have hlen:r.length<=1000:=by
  rcases hg with⟨q,e1,e2,e3,e4⟩ |⟨e1,e2⟩<;>omega
 rw[il,ae,show(0:Int)=((0:Nat):Int) from rfl,hr]
 cases p != (s.size:Int) with
 |true=>rfl
 |false=>
  simp only[ae]
  cases hf:Fx r with
  |false=>
   rw[alJ (by omega) (by omega) hf]
   cases he:(ByteArray.toList D9==ByteArray.toList s) with
   |false=>rfl
   |true=>
    have:=WD.1 he
    subst this
    simp
  |true=>
   obtain⟨t,ht,e⟩:=aeZ hf
   subst e
   rw[ZH ht hf (by omega)]
   cases he:(ByteArray.toList (bY (AO t))==ByteArray.toList s) with
   |false=>rfl
   |true=>exact absurd ⟨ht,hf,(WD.1 he).symm⟩ (h t)
theorem alM {N:Nat} {s:ByteArray} {kf:List Int->Bool->aa} (h:∀ t,¬asV s t) (hN:2000<N):jY N s kf=kf [] false:=by
 unfold jY
 by_cases hs:s.size<=100
 rotate_left
 ·rw[dZ];rfl
 rw[il,ae]
 obtain⟨D,rfl⟩:∃ D,s=bY D:=⟨s.data.toList,(Yx s).symm⟩
 rw[tp] at hs
 cases D with
 |nil=>
  obtain⟨n,rfl⟩:∃ n,N=n+1:=⟨N - 1,by omega⟩
  show IC (adC n) n (bY []) _=_
  unfold IC
  rw[Rr]
  rfl
 |cons c D=>
  obtain⟨r,rest,b,hr,hg⟩:=S5 N (c::D) (by omega) (by omega)
  rw[hr]
  cases b with
  |false=>rfl
  |true=>
   simp only[az,ae]
   cases ByteArray.toList (bY rest)==ByteArray.toList D9 with
   |false=>rfl
   |true=>
    simp only[az,ae]
    cases hf:Fx r with
    |false=>
     rw[alK (by omega) (by omega) hf]
     cases he:(ByteArray.toList D9==ByteArray.toList (bY (c::D))) with
     |false=>rfl
     |true=>
      have:=WD.1 he
      have h2:=wV (b:=c) (r:=D)
      rw[←this] at h2
      simp at h2
    |true=>
     obtain⟨t,ht,e⟩:=aeZ hf
     subst e
     rw[ZI ht hf (by omega)]
     cases he:(ByteArray.toList (bY (AO t))==ByteArray.toList (bY (c::D))) with
     |false=>rfl
     |true=>exact absurd ⟨ht,hf,(WD.1 he).symm⟩ (h t)
end Go.Pv.R
namespace Go.Pv.R
open List Int IntKind
theorem WE {α β:Type} {p:α->Bool} {f:α->β}:∀ (l:List α) (i:Nat),lF (λ_ x=>p x) (λ_ x=>f x) l i=(l.filter p).map f
 |[],_=>rfl
 |x::r,i=>by simp only[lF,fv];cases p x<;>simp[WE r]
end Go.Pv.R
namespace Go.Pv.R
open List Int IntKind
structure azQ (t:List bn) (x:bn):Prop where
 w:0<=x.2.2.1/\x.2.2.1<=x.met.length
 f:0<=x.2.2.2.2.1/\x.2.2.2.2.1<=x.met.length
 p:0<=x.2.2.2.1/\x.2.2.2.1<=100000
 m:x.met.length<=20
 s:∀ id,id∈x.met->id≠x.1/\∃ y:bn,y∈t/\y.1=id/\x.1∈y.met
theorem avF {t:List bn} (h:bB t=true) {x:bn} (hx:x∈t):azQ t x:=by
 have hm:=aU;unfold bB at h;simp only[ai,au] at h;obtain⟨_,h1,h2⟩:=h;rw[nN] at h1 h2;have m20:∀ y:bn,y∈t->y.met.length<=20:=λy hy=>by obtain⟨i,hi,rfl⟩:=bo.1 hy;have:=h1 i hi;unfold xE at this;simp only[ai,au] at this;exact this.2.2.2.2.2.1
 obtain⟨i,hi,rfl⟩:=bo.1 hx;have a:=h1 i hi;have b:=h2 i hi;unfold xE at a;simp only[ai,au,mv] at a;rw[aJ] at b;refine⟨a.2.2.1,a.2.2.2.1,a.2.2.2.2.1,a.2.2.2.2.2.1,λid hid=>?_⟩;have c:=b id hid;unfold adD at c;simp only[ai,bV,decide_eq_false_iff_not,bw,bP] at c;obtain⟨c1,c2,c3⟩:=c;refine⟨c2,?_⟩;obtain⟨k,hk,e,h3,_⟩:=fP (p:=λx:bn=>x.1==id) (l:=t) (by unfold bK at c1;omega);have e:bK t id=(k:Int):=e;rw[e,aj,aO _ _ hk] at c3;rw[Rl (by have:=m20 _ hx;omega),Rl (by have:=m20 _ (aK hk);omega)] at c3;refine⟨t[k],aK hk,by simpa using h3,?_⟩;have:0<List.count id (t[i].met):=pw.2 hid;exact pw.1 (by omega)
structure azR (c:bE):Prop where
 t:bB c.1=true
 j:fm c.2.1=true
 m:sG c.2.2.2.2.2.1=true
 sl:c.2.2.2.1.length=c.2.2.1.length
 bl:c.2.2.2.2.1.length=c.2.2.1.length
 ro:c.2.2.1.length=0∨(wT c.1 c.2.2.1=true/\nA c.1 c.2.1 c.2.2.1 c.2.2.2.1=true)
 ba:allI (B3 c) c.2.2.2.2.1 0=true
 pl:0<=c.2.2.2.2.2.2/\c.2.2.2.2.2.2<=1000
 tw:IP c.1=c.2.2.2.2.2.2
theorem WG {c:bE} (h:dm c=true):azR c:=by unfold dm at h;simp only[ai,bd,au,mv,bP] at h;exact⟨h.1,h.2.1,h.2.2.1,h.2.2.2.1,h.2.2.2.2.1,h.2.2.2.2.2.1,h.2.2.2.2.2.2.1,h.2.2.2.2.2.2.2.1,h.2.2.2.2.2.2.2.2⟩
end Go.Pv.R
namespace Go.Pv.R
open List Int IntKind
def asX:bE:=([],([],([],([],([],([],0))))))
end Go.Pv.R
namespace Go.Pv.R
open List Int IntKind
end Go.Pv.R
namespace Go.Pv.R
open List Int IntKind
end Go.Pv.R
namespace Go.Pv.R
open List Int IntKind
end Go.Pv.R
namespace Go.Pv.R
open List Int IntKind
end Go.Pv.R
namespace Go.Pv.R
open List Int IntKind
end Go.Pv.R
namespace Go.Pv.R
open List Int IntKind
end Go.Pv.R
namespace Go.Pv.R
open List Int IntKind
end Go.Pv.R
namespace Go.Pv.R
open List Int IntKind
end Go.Pv.R
namespace Go.Pv.R
open List Int IntKind
end Go.Pv.R
namespace Go.Pv.R
open List Int IntKind
end Go.Pv.R
namespace Go.Pv.R
open List Int IntKind
end Go.Pv.R
namespace Go.Pv.R
open List Int IntKind
end Go.Pv.R
namespace Go.Pv.R
open List Int IntKind
end Go.Pv.R
namespace Go.Pv.R
open List Int IntKind
end Go.Pv.R
namespace Go.Pv.R
open List Int IntKind
end Go.Pv.R
namespace Go.Pv.R
open List Int IntKind
end Go.Pv.R
namespace Go.Pv.R
open List Int IntKind
end Go.Pv.R
namespace Go.Pv.R
open List Int IntKind
theorem alN {c:bE} (h:dm c=true):c.2.2.1.length<=100/\(∀ x∈c.2.2.1,M9 x.1/\M9 x.2)/\∀ x∈c.2.2.2.1,M9 x:=by
 have hc:=WG h;have hs:=th h;rcases hc.ro with h0 |⟨hr,hse⟩
 ·have h1:c.2.2.1=[]:=p8.1 h0;have h2:c.2.2.2.1=[]:=p8.1 (by rw[hc.sl,h0]);refine⟨by omega,λx hx=>?_,λx hx=>?_⟩
  ·rw[h1] at hx;cases hx
  rw[h2] at hx;cases hx
 have hid:∀ id,id∈J4 c.1->M9 id:=λid hid=>by obtain⟨x,hx,rfl⟩:=cg.1 hid;have ht:=hc.t;unfold bB at ht;simp only[ai] at ht;obtain⟨i,hi,rfl⟩:=bo.1 hx;have:=nN.1 ht.2.1 i hi;unfold xE at this;simp only[ai,mv] at this;unfold M9;have:=this.1;omega
 unfold wT at hr;simp only[ai] at hr;have hr1:=aJ.1 hr.1;refine⟨?_,λx hx=>?_,λx hx=>?_⟩
 ·have:=hs.r10;omega
 ·obtain⟨_,h1,h2,_⟩:=J5 (hr1 x hx);exact⟨hid _ h1,hid _ h2⟩
 unfold nA at hse;simp only[ai,au] at hse;obtain⟨hl,hj,hp⟩:=hse;obtain⟨i,hi,rfl⟩:=bo.1 hx;have:=nN.1 hp i (by omega);unfold Ov at this;simp only[aW,ai,au,aO _ _ hi] at this;obtain⟨k,hk,_,h1,_⟩:=fP (p:=λx:c8=>x.1==c.2.2.2.1[i]) (l:=c.2.1) (by have:=this.1;unfold gI at this;omega);unfold fm at hj;simp only[ai] at hj;have hk2:=nN.1 hj.2 k hk;unfold IN at hk2;simp only[ai,mv] at hk2;have h1:(c.2.1[k]).1=c.2.2.2.1[i]:=by simpa using h1
 unfold M9;have:=hk2.1;omega
end Go.Pv.R
namespace Go.Pv.R
open List Int IntKind
def Z':cZ:=(5,[[0,1],[1,0],[1,2],[2,3],[3,4],[4,2]])
theorem avG (M:Nat) (kf:List aq->aa):IK (M+300) Z' kf=kf [[0],[1,3]]:=by kernel_rfl
end Go.Pv.R
namespace Go.Pv.R
open List Int IntKind
theorem Uu {c:bE} (h:dm c=true):∀ x∈c.1,acq x:=λx hx=>by have hT:=(WG h).t;have a:=avF hT hx;obtain⟨i,hi,rfl⟩:=bo.1 hx;unfold bB at hT;simp only[ai] at hT;have h1:=nN.1 hT.2.1 i hi;unfold xE at h1;simp only[ai,mv] at h1;have w:=a.w;have p:=a.p;have m:=a.m;have m':(c.1[i]).2.2.2.2.2.length<=20:=m;have hi1:=h1.1;have w':(c.1[i]).2.2.1<=(c.1[i]).2.2.2.2.2.length:=w.2;exact⟨by unfold M9;omega,by unfold M9;omega,by unfold M9;omega,by unfold M9;omega⟩
theorem acI {c:bE} (h:dm c=true):∀ x∈B5 c.1,M9 x:=λx hx=>by unfold B5 at hx;rw[(WG h).t,ab] at hx;obtain⟨t,ht,rfl⟩:=cg.1 hx;exact(Uu h t (YA.1 ht)).h1
theorem asY {c:bE} (h:dm c=true):M9 c.2.2.2.2.2.2:=by have:=(WG h).pl;unfold M9;omega
theorem YF {α:Type} {p:Nat->α->Bool} {y:Int}:∀ {l:List α} {i:Nat},y∈lF p (λi _=>(i:Int)) l i->0<=y/\y<(i:Int)+l.length
 |[],i,h=>by simp[lF] at h
 |x::r,i,h=>by
  unfold lF at h;simp only[ak];cases hp:p i x with
  |true=>
  rw[hp] at h;rcases aS.1 h with rfl |h
  ·omega
  have:=YF h;omega
  |false=>rw[hp] at h;have:=YF (i:=i+1) h;omega
theorem asZ {c:bE} (h:dm c=true):∀ x∈dw c,M9 x:=λx hx=>by have:=YF hx;have hj:=(th h).b10;unfold M9;omega
theorem aCK {N:Nat} {c:bE} {id iV:Int} {kf:bE->Bool->aa} (h:ago c N):yl N c id iV kf=kf (nW c ((1:Int),(id,(iV,0)))).1 (nW c ((1:Int),(id,(iV,0)))).2:=(Yw h.ok h.tb h.tN h.N2 h.mN).trans (aeY (c:=c) (r:=OC c (J9 c id iV) 1 id) (k:=kf))
theorem azS {N:Nat} {c:bE} {id iV:Int} {kf:bE->Bool->aa} (h:ago c N):wL N c id iV kf=kf (nW c ((2:Int),(id,(iV,0)))).1 (nW c ((2:Int),(id,(iV,0)))).2:=Wj h.ok h.jb h.jN h.N2 h.mN
theorem aCL {N:Nat} {c:bE} {kf:bE->Bool->aa} (h:ago c N):yn N c kf=kf (nW c ((3:Int),(0,(0,0)))).1 (nW c ((3:Int),(0,(0,0)))).2:=YE h.ok h.ok' h.N2 h.mN
theorem avH {N:Nat} {c:bE} {n f s:Int} {kf:bE->Bool->aa} (h:ago c N):uT N c n f s kf=kf (nW c ((4:Int),(f,(s,n)))).1 (nW c ((4:Int),(f,(s,n)))).2:=(Uk h.ok h.N2 h.mN).trans (aeY (c:=c) (r:=OC c (SU c n f s) 4 (Qc c n f s).1) (k:=kf))
theorem azT {N:Nat} {c:bE} {kf:bE->Bool->aa} (h:ago c N):wO N c kf=kf (nW c ((5:Int),(0,(0,0)))).1 (nW c ((5:Int),(0,(0,0)))).2:=WA h.ok h.N2 h.mN
theorem azU {N:Nat} {c:bE} {id:Int} {kf:bE->Bool->aa} (h:ago c N):wP N c id kf=kf (nW c ((6:Int),(id,(0,0)))).1 (nW c ((6:Int),(id,(0,0)))).2:=(Wh h.ok h.N2 h.mN).trans (aeY (c:=c) (r:=OC c (N0 c id) 6 id) (k:=kf))
end Go.Pv.R
namespace Go.Pv.R
open List Int IntKind
end Go.Pv.R
namespace Go.Pv.R
open List Int IntKind
end Go.Pv.R
namespace Go.Pv.R
open List Int IntKind
def Pc (w:List UInt8):Bool:=!w.isEmpty
def Qs (s:ByteArray):List ByteArray:=((O' 32 s.data.toList).filter Pc).map bY
theorem Rs (w:List UInt8):(!(ByteArray.toList (bY w)==ByteArray.toList D9))=Pc w:=by
 cases w with
 |nil=>rw[Rr];rfl
 |cons b r=>rw[wV];rfl
theorem ZJ:∀ l:List (List UInt8),(l.map bY).filter (λw=>!(ByteArray.toList w==ByteArray.toList D9))=(l.filter Pc).map bY
 |[]=>rfl
 |w::r=>by rw[bz,fv,fv,Rs,ZJ r];cases Pc w<;>simp
theorem acJ (s:ByteArray):(Qs s).length<=s.size+1:=by unfold Qs;rw[aY];have h1:=List.length_filter_le Pc (O' 32 s.data.toList);have h2:=aaw 32 s.data.toList;have h3:s.data.toList.length=s.size:=(Lib.size_eq s).symm;omega
theorem Uv {N:Nat} {s:ByteArray} {c z:bE} {K:List ByteArray->aa} (hs:s.size<=2000000) (hN:s.size+10<N):S11 N s Bg (λr=>fG s c z r (length r:Int) N K [] 0)=K (Qs s):=by
 have hm:=aU;have hl:=aaw 32 s.data.toList;have rz:s.data.toList.length=s.size:=(Lib.size_eq s).symm;unfold S11;have hc:(Nat.blt (ByteArray.size s) 4294967281&&Nat.beq (ByteArray.size Bg) 1)=true:=by have h1:Nat.blt (ByteArray.size s) 4294967281=true:=(by rw[yU];omega);rw[h1];rfl
 have e32:Bd s Bg=(O' 32 s.data.toList).map bY:=aeT s 32;rw[hc,ab,e32];dsimp only;have hlen:((O' 32 s.data.toList).map bY).length=(O' 32 s.data.toList).length:=aY ..;rw[O8 (by omega) (by omega),mT (l:=(O' 32 s.data.toList).map bY) (c:=λ_ w=>!(ByteArray.toList w==ByteArray.toList D9)) (f:=λ_ w=>w) (λi w z next hi e hz=>?_) ((O' 32 s.data.toList).map bY) 0 [] rfl (aM _),WE,List.map_id',ZJ]
 ·rfl
 cases hq:(!(ByteArray.toList w==ByteArray.toList D9)) with
 |false=>rfl
 |true=>rw[ab,af (by simp only[ak,ao];omega)];rfl
def gl (w:List UInt8):List (List UInt8)->List (List UInt8)
 |[]=>[w]
 |h::t=>(w++h)::t
theorem Gt {s:ByteArray} {K:List ByteArray->aa} (hs:s.size<=2000000):∀ (r:List UInt8) (i n:Nat) (o:List ByteArray) (w:List UInt8),s.data.toList.drop i=r->i<=s.size->r.length+1<n->o.length<=i->w.length<=i-> gO s n K o (bY w) (i:Int)=K (o++((gl w (O' 32 r)).filter Pc).map bY)
 |[],i,n,o,w,hd,hi,hn,ho,hw=>by have rz:s.data.toList.length=s.size:=(Lib.size_eq s).symm;have lT:i=s.size:=(by have:=br length hd;simp only[aX,ao] at this;omega);obtain⟨n,rfl⟩:∃ f,n=f+2:=⟨n - 2,by simp only[ao] at hn;omega⟩;have ahY:∀ (o:List ByteArray) (w:ByteArray),gO s (n+1) K o w ((s.size:Int)+1)=K o:=λo w=>(by unfold gO;rw[il];rfl);unfold gO;rw[lT,dZ,il];simp only[ab,ae];unfold xl;rw[Rs,iD,ahY,ahY,af (by simp only[ak,ao];omega)];cases hw:Pc w<;>simp[O',gl,hw]
 |b::r,i,n,o,w,hd,hi,hn,ho,hw=>by
  have rz:s.data.toList.length=s.size:=(Lib.size_eq s).symm;obtain⟨n,rfl⟩:∃ f,n=f+1:=⟨n - 1,by omega⟩;obtain⟨h1,h2,h3⟩:=Kg hd;simp only[ak] at hn;have hx:ByteArray.extract s i (i+1)=bY [b]:=(by rw[xw,hd];have:i+1 - i=1:=(by omega);rw[this];rfl);have hp:bY w++bY [b]=bY (w++[b]):=(by apply adG;simp only[Qj,Am]);have hbb:((b.toNat:Int) != (32:Int))=!(b==32):=by
   by_cases e:b=32
   ·subst e;rfl
   have h32:(32:UInt8).toNat=32:=rfl;have:((b.toNat:Int))≠32:=λh=>e (rn.1 (by omega));rw[qK.2 this,bw.2 e];rfl
  have hw1:wrap .i64 ((i:Int)+1)=((i+1:Nat):Int):=(by rw[iD];omega);unfold gO;rw[dZ,dZ,aL h1,h2,hbb];simp only[ab];cases hb:b==32 with
  |false=>simp only[bC,ab];rw[hw1,af (show(0:Int)<=(i:Int) by omega),af (show(i:Int)<=((i+1:Nat):Int) by omega),af (show((i+1:Nat):Int)<=(ByteArray.size s:Int) by omega)];simp only[cM,ab,aj];simp only[hx];rw[af (by rw[tp,tp];simp only[ak,ao];omega),ab,hp,Gt hs r (i+1) n o (w++[b]) h3 (by omega) (by omega) (by omega) (by simp;omega)];obtain⟨v,vs,e⟩:=Mv 32 r;simp only[O',hb,ae,e,gl,bu,iU]
  |true=>
  simp only[az,ae];unfold xl;have hz:D9=bY []:=rfl;have key:=λo ho=>Gt (K:=K) hs r (i+1) n o [] h3 (by omega) (by omega) ho (by simp);have hg:gl [] (O' 32 r)=O' 32 r:=by obtain⟨v,vs,e⟩:=Mv 32 r;rw[e];rfl
  rw[Rs,hw1];simp only[O',hb,ab,gl,b6,fv];cases hnw:Pc w with
  |false=>simp only[ae];rw[hz,key o (by omega),hg];rfl
  |true=>simp only[ab];rw[af (by simp only[ak,ao];omega),ab,hz,key (o++[bY w]) (by simp;omega),hg,bu];rfl
theorem Uw {N:Nat} {s:ByteArray} {K:List ByteArray->aa} (hs:s.size<=2000000) (hN:s.size+10<N):K2 N s K=K (Qs s):=by
 have rz:s.data.toList.length=s.size:=(Lib.size_eq s).symm;have h:=Gt (K:=K) hs s.data.toList 0 N [] [] rfl (by omega) (by omega) (by simp) (by simp);have hg:gl [] (O' 32 s.data.toList)=O' 32 s.data.toList:=by obtain⟨v,vs,e⟩:=Mv 32 s.data.toList;rw[e];rfl
 rw[hg] at h;exact h
def okA (ws:List ByteArray):Bool:=ws.all λw=>okI w.data.toList
def N6 (ws:List ByteArray):List Int:=ws.map λw=>acu w.data.toList
theorem YG {A:aa} {k:List Int->aa}:∀ (ws:List ByteArray) (i:Nat) (z:List Int),z.length+ws.length<=3000000->dU (λ(i:Nat) (x:ByteArray) (z:List Int) (next:List Int->aa)=>bif (!okI x.data.toList) then A else bif (decide ((length z+length [acu x.data.toList])*1<=4398046511104)) then next (z++[acu x.data.toList]) else none) k ws i z=bif okA ws then k (z++N6 ws) else A
 |[],i,z,h=>by simp[dU,okA,N6]
 |w::r,i,z,h=>by
  simp only[ak] at h;simp only[dU,okA,N6,lO,bz];cases hw:okI w.data.toList with
  |false=>rfl
  |true=>simp only[az,ae,aA];rw[af (by simp only[ak,ao];omega),ab,YG r (i+1) _ (by simp only[ax,ak,ao];omega),bu];rfl
theorem ao0 {N:Nat} {c z:bE} {ws0 ws:List ByteArray} {k:List Int->aa} {kf:bE->ByteArray->aa} (hO:cS c N) (h40:40<N) (hl:ws.length<=2000001) (hN:ws.length<N):gk N c z ws0 ws (length ws:Int) N k kf [] 0=bif okA ws then k (N6 ws) else kf c gE:=by
 have hm:=aU;rw[NY (by omega) hN];have:=YG (A:=kf c gE) (k:=k) ws 0 [] (by simp;omega);simp only[bU] at this;rw[←this];congr 1;funext i x z next
 rw[Yz h40,cX hO]
theorem ao1 {N:Nat} {ws:List ByteArray} {k:List Int->Bool->aa} {A:aa} (h40:40<N) (hl:ws.length<=2000001) (hN:ws.length<N) (hA:∀ z,k z false=A):HF N ws k=bif okA ws then k (N6 ws) true else A:=by
 have hm:=aU;unfold HF;rw[VT (by omega) hN];have:=YG (A:=A) (k:=λz=>k z true) ws 0 [] (by simp;omega);simp only[bU] at this;rw[←this];congr 1;funext i x z next
 rw[Yy h40,hA]
end Go.Pv.R
namespace Go.Pv.R
open List Int IntKind
def AT (w s:ByteArray):Bool:=ByteArray.toList w==ByteArray.toList s
theorem uz {w s:ByteArray} (h:AT w s=true):w=s:=WD.1 h
def ajj (w:ByteArray):Bool:=AT w LS||(AT w PK||(AT w JW||(AT w p9||(AT w Bh||(AT w Bi||(AT w sO||(AT w Bj||(AT w ER||(AT w tZ||AT w tG)))))))))
def Lq (w:ByteArray):Int:=bif ajj w then 0 else bif AT w EP||AT w JX then 1 else bif AT w K1||AT w yV then 2 else bif AT w Bf then 3 else -1
theorem yp {N:Nat} {w:ByteArray} {k:Int->aa}:IE N w k=k (Lq w):=by
 have e:∀ s,(ByteArray.toList w==ByteArray.toList s)=AT w s:=λs=>rfl
 unfold IE iY K7 K6 Lq ajj
 simp only[e]
 cases AT w LS
 rotate_left
 ·rfl
 cases AT w PK
 rotate_left
 ·rfl
 cases AT w JW
 rotate_left
 ·rfl
 cases AT w p9
 rotate_left
 ·rfl
 cases AT w Bh
 rotate_left
 ·rfl
 cases AT w Bi
 rotate_left
 ·rfl
 cases AT w sO
 rotate_left
 ·rfl
 cases AT w Bj
 rotate_left
 ·rfl
 cases AT w ER
 rotate_left
 ·rfl
 cases AT w tZ
 rotate_left
 ·rfl
 cases AT w tG
 rotate_left
 ·rfl
 cases AT w EP
 rotate_left
 ·rfl
 cases AT w JX
 rotate_left
 ·rfl
 cases AT w K1
 rotate_left
 ·rfl
 cases AT w yV
 rotate_left
 ·rfl
 cases AT w Bf<;>rfl
theorem cf {a b:ByteArray} {x y:aa} (h:(ByteArray.toList a==ByteArray.toList b)=false):(bif (ByteArray.toList a==ByteArray.toList b) then x else y)=y:=by rw[h];rfl
theorem ct {a b:ByteArray} {x y:aa} (h:(ByteArray.toList a==ByteArray.toList b)=true):(bif (ByteArray.toList a==ByteArray.toList b) then x else y)=x:=by rw[h];rfl
def ags (F G:(ByteArray->aa)->aa):Prop:=∃ s,(∀ k,F k=k s)/\∀ k,G k=k s
section
variable {M:Nat} {c:bE}
theorem ao2 (h:dm c=true):ags (gP (M+400) c p9 []) (dY (M+400) c p9):=by
 have hO:=(th h).okC (N:=M+400) (by omega);have hl:=N4 (WG h).t;have h10:=(th h).t10;refine⟨J' (ZF (B5 c.1)),λk=>?_,λk=>?_⟩
 ·have e:gP (M+400) c p9 [] k=rW (M+400) c.1 λl=>gz (M+400) l k:=(by kernel_rfl);rw[e,Ez hO.tl hO.tm hO.tN (by omega),vq (acI h) (by omega) (by omega)]
 have e:dY (M+400) c p9 k=vf (M+400) c.1 λl=>gy (M+400) l k:=by kernel_rfl
 rw[e,Mw hO.tl hO.tm (by omega),vp (acI h) (by omega) (by omega)]
theorem ao3 (h:dm c=true):ags (gP (M+400) c Bh []) (dY (M+400) c Bh):=by
 have h10:=(th h).t10;refine⟨J' (Ul c.1),λk=>?_,λk=>?_⟩
 ·have e:gP (M+400) c Bh [] k=s5 (M+400) c.1 k:=(by kernel_rfl);rw[e,R8 (Uu h) (by omega) (by omega)]
 have e:dY (M+400) c Bh k=sW (M+400) c.1 k:=by kernel_rfl
 rw[e,R7 (Uu h) (by omega) (by omega)]
theorem ao4 (h:dm c=true):ags (gP (M+400) c Bi []) (dY (M+400) c Bi):=by
 obtain⟨g1,g2,g3⟩:=alN h;refine⟨J' (Um c.2.2.2.1 c.2.2.1),λk=>?_,λk=>?_⟩
 ·have e:gP (M+400) c Bi [] k=s6 (M+400) c.2.2.1 c.2.2.2.1 k:=(by kernel_rfl);rw[e,Sa g3 g2 (by omega) (by omega)]
 have e:dY (M+400) c Bi k=sX (M+400) c.2.2.1 c.2.2.2.1 k:=by kernel_rfl
 rw[e,R9 g3 g2 (by omega) (by omega)]
theorem as0 (h:dm c=true):ags (gP (M+400) c sO []) (dY (M+400) c sO):=by
 have hO:=(th h).okC (N:=M+400) (by omega);have hl:=aeL c;have h10:=(th h).b10;refine⟨J' (ZF (dw c)),λk=>?_,λk=>?_⟩
 ·have e:gP (M+400) c sO [] k=pv (M+400) c λl=>gz (M+400) l k:=(by kernel_rfl);rw[e,ze hO,vq (asZ h) (by omega) (by omega)]
 have e:dY (M+400) c sO k=qZ (M+400) c λl=>gy (M+400) l k:=by kernel_rfl
 rw[e,zd hO,vp (asZ h) (by omega) (by omega)]
theorem as1 (h:dm c=true):ags (gP (M+400) c Bj []) (dY (M+400) c Bj):=by
 have hO:=(th h).okC (N:=M+400) (by omega);have hn:=asI hO (asY h);refine⟨J' (ZF [(length c.1:Int),(length c.2.1:Int),(length c.2.2.1:Int),(length (dw c):Int),c.2.2.2.2.2.2,(length c.2.2.2.2.2.1:Int)]),λk=>?_,λk=>?_⟩
 ·have e:gP (M+400) c Bj [] k=za (M+400) c k:=(by kernel_rfl);rw[e,show za (M+400) c k=pv (M+400) c _ from rfl,ze hO,vq hn (by simp) (by simp only[ak,ao];omega)]
 have e:dY (M+400) c Bj k=yZ (M+400) c k:=by unfold dY;exact(cf (by kernel_rfl)).trans ((cf (by kernel_rfl)).trans ((cf (by kernel_rfl)).trans ((cf (by kernel_rfl)).trans (ct (by kernel_rfl)))))
 rw[e];unfold yZ;rw[zd hO,vp hn (by simp) (by simp only[ak,ao];omega)]
theorem ao5 (h:dm c=true):ags (gP (M+400) c ER []) (dY (M+400) c ER):=by
 have hO:=(th h).okC (N:=M+400) (by omega);obtain⟨s,h1,h2⟩:=agi hO;refine⟨bif (!(ByteArray.toList s==ByteArray.toList D9)) then s else PL,λk=>?_,λk=>?_⟩
 ·have e:gP (M+400) c ER [] k=BU (M+400) c λs=>bif (!(ByteArray.toList s==ByteArray.toList D9)) then k s else k PL:=(by kernel_rfl);rw[e,h2];cases (!(ByteArray.toList s==ByteArray.toList D9))<;>rfl
 have e:dY (M+400) c ER k=By (M+400) c λs=>bif (!(ByteArray.toList s==ByteArray.toList D9)) then k s else k PL:=by kernel_rfl
 rw[e,h1];cases (!(ByteArray.toList s==ByteArray.toList D9))<;>rfl
theorem alO:ags (gP (M+400) c tZ []) (dY (M+400) c tZ):=⟨im,λk=>by kernel_rfl,λk=>by kernel_rfl⟩
theorem as2 (M:Nat) (kf:List aq->aa):IB (M+300) Z' kf=kf [[0],[1,3]]:=by kernel_rfl
theorem as3:ags (gP (M+400) c tG []) (dY (M+400) c tG):=by
 refine⟨⟨#[123,48,125,123,49,44,51,125]⟩,λk=>?_,λk=>?_⟩
 ·have e2:Ld (M+400) [[0],[1,3]] k=k ⟨#[123,48,125,123,49,44,51,125]⟩:=(by kernel_rfl);unfold gP;refine((cf (by kernel_rfl)).trans ((cf (by kernel_rfl)).trans ((cf (by kernel_rfl)).trans ((cf (by kernel_rfl)).trans ((cf (by kernel_rfl)).trans ((cf (by kernel_rfl)).trans (ct (by kernel_rfl)))))))).trans ?_;unfold oh;exact(avG (M+100) _).trans e2
 have e2:K4 (M+400) [[0],[1,3]] k=k ⟨#[123,48,125,123,49,44,51,125]⟩:=by kernel_rfl
 unfold dY;refine((cf (by kernel_rfl)).trans ((cf (by kernel_rfl)).trans ((cf (by kernel_rfl)).trans ((cf (by kernel_rfl)).trans ((cf (by kernel_rfl)).trans ((cf (by kernel_rfl)).trans ((cf (by kernel_rfl)).trans (ct (by kernel_rfl))))))))).trans ?_;unfold oc;exact(as2 (M+100) _).trans e2
theorem as4 (M:Nat) (kf:Bool->aa):∀ a:Nat,a<5->Ak (M+400) Z' (a:Int) kf=kf false/\tI (M+400) Z' (a:Int) kf=kf false
 |0,_=>⟨by kernel_rfl,by kernel_rfl⟩
 |1,_=>⟨by kernel_rfl,by kernel_rfl⟩
 |2,_=>⟨by kernel_rfl,by kernel_rfl⟩
 |3,_=>⟨by kernel_rfl,by kernel_rfl⟩
 |4,_=>⟨by kernel_rfl,by kernel_rfl⟩
 |n+5,h=>by omega
theorem aCM (M:Nat) (k:Bool->aa):rk (M+400) Z' k=k true:=by kernel_rfl
theorem aCN (M:Nat) (k:Bool->aa):uh (M+400) Z' k=k true:=by kernel_rfl
theorem anu (a:Int) (kf:Bool->aa):Ak (M+400) Z' a kf=kf false/\tI (M+400) Z' a kf=kf false:=by
 by_cases h:0<=a/\a<5
 ·obtain⟨k,rfl⟩:∃ k:Nat,a=(k:Int):=⟨a.toNat,by omega⟩;exact as4 M kf k (by omega)
 have h4:wrap .i64 (Z'.1 - 1)=4:=by decide+kernel
 unfold Ak tI ur bq cj;rw[aCM,aCN,h4];by_cases h0:0<=a
 ·rw[af h0,an (show ¬a<=4 by omega)];exact⟨rfl,rfl⟩
 rw[an h0];exact⟨rfl,rfl⟩
end
end Go.Pv.R
namespace Go.Pv.R
open List Int IntKind
def Out (F G:(bE->ByteArray->aa)->aa):Prop:=∃ (x:bE) (s:ByteArray),dm x=true/\(∀ k,F k=k x s)/\∀ k,G k=k x s
def Qt (N:Nat) (c:bE) (w:ByteArray) (n:List Int) (kf:bE->ByteArray->aa):aa:=
 IE N w λr=>bif (r != (length n:Int)) then bR N c (λx=>kf x gE) else
  jr N c w n λy ok is=>bif (!is) then bR N c (λx=>gP N c w n (kf x)) else bif (!ok) then bR N c (λx=>kf x abz) else kf y PL
def GY (N:Nat) (c:bE) (w:ByteArray) (n:List Int) (kf:bE->ByteArray->aa):aa:=
 iX N w n λe=>bif (decide (e.1>(0:Int))) then uN N c e (λy ok=>HN N c y ok kf) else
  bif ((length n:Int)==(0:Int)) then
   bif (ByteArray.toList w==ByteArray.toList LS) then kf asX PL else bW N c (λx=>dY N c w (kf x))
  else bif ((length n:Int)==(1:Int)) then
   bif (ByteArray.toList w==ByteArray.toList JX) then bW N c (λx=>tI N Z' (getD n 0 0) (λb=>pC N b (kf x))) else bW N c (λx=>kf x gE)
  else bW N c (λx=>kf x gE)
theorem as5 (w:ByteArray):(Lq w=0->ajj w=true)/\(Lq w=1->(AT w EP||AT w JX)=true)/\(Lq w=2->(AT w K1||AT w yV)=true)/\(Lq w=3->AT w Bf=true)/\Lq w<=3:=by unfold Lq;generalize ajj w=b0;generalize (AT w EP||AT w JX)=b1;generalize (AT w K1||AT w yV)=b2;generalize AT w Bf=b3;revert b0 b1 b2 b3;decide
theorem xU {w s:ByteArray} {v:Int} (hs:Lq s=v) (h:Lq w≠v):AT w s=false:=by
 cases hh:AT w s with
 |false=>rfl
 |true=>rw[uz hh] at h;exact absurd hs h
theorem azV:Lq LS=0:=by decide+kernel
theorem avI:Lq K1=2:=by decide+kernel
theorem as6:Lq yV=2:=by decide+kernel
theorem avJ:Lq PK=0:=by decide+kernel
theorem ao6:Lq Bf=3:=by decide+kernel
theorem as7:Lq JW=0:=by decide+kernel
theorem as8:Lq EP=1:=by decide+kernel
theorem azW:Lq JX=1:=by decide+kernel
theorem ajk:Lq p9=0:=by decide+kernel
theorem as9:Lq Bh=0:=by decide+kernel
theorem as':Lq Bi=0:=by decide+kernel
theorem alP:Lq sO=0:=by decide+kernel
theorem avK:Lq Bj=0:=by decide+kernel
theorem ata:Lq ER=0:=by decide+kernel
theorem ajl:Lq tZ=0:=by decide+kernel
theorem agt:Lq tG=0:=by decide+kernel
theorem avL {N:Nat} {w:ByteArray} {n:List Int} {k:QL->aa} (h:Lq w≠(n.length:Int)):iX N w n k=k ((0:Int),((0:Int),((0:Int),(0:Int)))):=by
 have e:∀ s,(ByteArray.toList w==ByteArray.toList s)=AT w s:=λs=>rfl;have eqn:∀ v:Nat,n.length=v->∀ u:Int,((length n:Int)==u)=((v:Int)==u):=λv hv u=>by rw[hv]
 by_cases l0:n.length=0
 ·have h:Lq w≠0:=(by rw[l0] at h;exact h);simp only[iX,eqn 0 l0,e,xU avJ h,xU as7 h];rfl
 by_cases l1:n.length=1
 ·have h:Lq w≠1:=(by rw[l1] at h;exact h);simp only[iX,eqn 1 l1,e,xU as8 h];rfl
 by_cases l2:n.length=2
 ·have h:Lq w≠2:=(by rw[l2] at h;exact h);simp only[iX,eqn 2 l2,e,xU avI h,xU as6 h];rfl
 by_cases l3:n.length=3
 ·have h:Lq w≠3:=(by rw[l3] at h;exact h);simp only[iX,eqn 3 l3,e,xU ao6 h];rfl
 have d:∀ u:Nat,u<4->((length n:Int)==(u:Int))=false:=λu hu=>bw.2 (by omega);have d0:((length n:Int)==0)=false:=d 0 (by omega);have d1:((length n:Int)==1)=false:=d 1 (by omega);have d2:((length n:Int)==2)=false:=d 2 (by omega);have d3:((length n:Int)==3)=false:=d 3 (by omega);simp only[iX,d0,d1,d2,d3,ae]
theorem atb {N:Nat} {c:bE} {w:ByteArray} {k:ByteArray->aa} (h:Lq w≠0):dY N c w k=k gE:=by have e:∀ s,(ByteArray.toList w==ByteArray.toList s)=AT w s:=λs=>rfl;unfold dY;simp only[e,xU ajk h,xU as9 h,xU as' h,xU alP h,xU avK h,xU ata h,xU ajl h,xU agt h,ae]
theorem acK {N:Nat} {c:bE} {w:ByteArray} {n:List Int} {k:bE->ByteArray->aa} (hO:cS c N) (h:Lq w≠(n.length:Int)):GY N c w n k=k c gE:=by
 unfold GY;rw[avL h,an (by decide),ae];by_cases l0:n.length=0
 ·have h:Lq w≠0:=(by rw[l0] at h;exact h);have hn:(ByteArray.toList w==ByteArray.toList LS)=false:=xU azV h;rw[l0,hn,dE hO,atb h];rfl
 have d0:((length n:Int)==0)=false:=bw.2 (by omega);rw[d0,ae];by_cases l1:n.length=1
 ·have h:Lq w≠1:=(by rw[l1] at h;exact h);have hn:(ByteArray.toList w==ByteArray.toList JX)=false:=xU azW h;rw[hn];simp only[dE hO,ae];cases ((length n:Int)==1)<;>rfl
 have d1:((length n:Int)==1)=false:=bw.2 (by omega);rw[d1,ae,dE hO]
theorem ao7 {N:Nat} {c:bE} {w:ByteArray} {n:List Int} (hc:dm c=true) (hO:cS c N) (h:Lq w≠(n.length:Int)):Out (Qt N c w n) (GY N c w n):=by refine⟨c,gE,hc,λk=>?_,λk=>acK hO h⟩;unfold Qt;rw[yp,qK.2 h,ab,cX hO]
section
variable {M:Nat} {c:bE}
theorem MB (hM:0<M) (e:QL) {w:ByteArray} {n:List Int} {F:(bE->Bool->aa)->aa} (hc:dm c=true) (ha:Lq w=(n.length:Int)) (he:decide (e.1>0)=true) (h1:∀ k,jr (M+400) c w n k=F λy ok=>k y ok true) (h2:∀ k,iX (M+400) w n k=k e) (hF:ago c (M+400)->∀ k,F k=k (nW c e).1 (nW c e).2):Out (Qt (M+400) c w n) (GY (M+400) c w n):=by
 have hE:=(th hc).evC (N:=M+400) (by omega);have eI:∀ kf,Qt (M+400) c w n kf=bif (!(nW c e).2) then kf c abz else kf (nW c e).1 PL:=λkf=>by unfold Qt;rw[yp,ha,eQ,ae,h1,hF hE];show(bif (!(nW c e).2) then bR (M+400) c (λx=>kf x abz) else kf (nW c e).1 PL)=_;rw[cX hE.ok]
 have eS:∀ kf,GY (M+400) c w n kf=bif (!(nW c e).2) then kf c abz else kf (nW c e).1 PL:=λkf=>by unfold GY;rw[h2,he,ab,Ut hE];unfold HN;rw[dE hE.ok]
 rcases ajd c e with⟨h3,h4⟩ |⟨h3,h4⟩
 ·exact⟨c,abz,hc,λk=>by rw[eI,h4];rfl,λk=>by rw[eS,h4];rfl⟩
 exact⟨(nW c e).1,PL,h3,λk=>by rw[eI,h4];rfl,λk=>by rw[eS,h4];rfl⟩
theorem B9 {w:ByteArray} {n:List Int} (hc:dm c=true) (ha:Lq w=(n.length:Int)) (h1:∀ k,jr (M+400) c w n k=k c false false) (h2:∃ G:(ByteArray->aa)->aa,(∀ k,GY (M+400) c w n k=bW (M+400) c λx=>G (k x))/\ags (gP (M+400) c w n) G):Out (Qt (M+400) c w n) (GY (M+400) c w n):=by
 have hO:=(th hc).okC (N:=M+400) (by omega);obtain⟨G,h2,s,h3,h4⟩:=h2;refine⟨c,s,hc,λk=>?_,λk=>?_⟩
 ·unfold Qt;rw[yp,ha,eQ,ae,h1];show bR (M+400) c (λx=>gP (M+400) c w n (k x))=_;rw[cX hO,h3]
 rw[h2,dE hO,h4]
theorem Fy {w:ByteArray} (h:∀ k,iX (M+400) w [] k=k ((0:Int),((0:Int),((0:Int),(0:Int))))) (hn:(ByteArray.toList w==ByteArray.toList LS)=false) (k:bE->ByteArray->aa):GY (M+400) c w [] k=bW (M+400) c λx=>dY (M+400) c w (k x):=by unfold GY;rw[h,hn];rfl
theorem pz {w:ByteArray} {n:List Int} (h:(ByteArray.toList w==ByteArray.toList LS)=false/\(ByteArray.toList w==ByteArray.toList K1)=false/\(ByteArray.toList w==ByteArray.toList yV)=false/\(ByteArray.toList w==ByteArray.toList PK)=false/\(ByteArray.toList w==ByteArray.toList Bf)=false/\(ByteArray.toList w==ByteArray.toList JW)=false/\(ByteArray.toList w==ByteArray.toList EP)=false) (k:bE->Bool->Bool->aa):jr (M+400) c w n k=k c false false:=by unfold jr;obtain⟨h0,h1,h2,h3,h4,h5,h6⟩:=h;rw[h0,h1,h2,h3,h4,h5,h6];rfl
theorem atc (k:bE->ByteArray->aa):Qt (M+400) c LS [] k=k asX PL:=by kernel_rfl
theorem atd (k:bE->ByteArray->aa):GY (M+400) c LS [] k=k asX PL:=by kernel_rfl
theorem aDJ (a:Int) (F:Int->aa):(bif (bp (0:Int) (length [a])) then F (getD [a] (toNat (0:Int)) (0:Int)) else none)=F a:=rfl
theorem ao8 (hM:0<M) (w:ByteArray) (n:List Int) (hc:dm c=true):Out (Qt (M+400) c w n) (GY (M+400) c w n):=by
 have hE:=(th hc).evC (N:=M+400) (by omega)
 by_cases ha:Lq w=(n.length:Int)
 rotate_left
 ·exact ao7 hc hE.ok ha
 obtain⟨c0,c1,c2,c3,c4⟩:=as5 w
 match n,ha with
 |[],ha=>
  have h0:=c0 ha
  unfold ajj at h0
  simp only[bd] at h0
  rcases h0 with h |h |h |h |h |h |h |h |h |h |h
  ·obtain rfl:=uz h
   exact⟨asX,PL,by decide+kernel,atc,atd⟩
  ·obtain rfl:=uz h
   exact MB hM ((3:Int),(0,(0,0))) hc ha rfl (λk=>by unfold jr;exact(cf (by kernel_rfl)).trans ((cf (by kernel_rfl)).trans ((cf (by kernel_rfl)).trans (ct (by kernel_rfl))))) (λk=>by kernel_rfl) λhE k=>aCL hE
  ·obtain rfl:=uz h
   exact MB hM ((5:Int),(0,(0,0))) hc ha rfl (λk=>by unfold jr;exact(cf (by kernel_rfl)).trans ((cf (by kernel_rfl)).trans ((cf (by kernel_rfl)).trans ((cf (by kernel_rfl)).trans ((cf (by kernel_rfl)).trans (ct (by kernel_rfl))))))) (λk=>by kernel_rfl) λhE k=>azT hE
  ·obtain rfl:=uz h
   exact B9 hc ha (pz ⟨by kernel_rfl,by kernel_rfl,by kernel_rfl,by kernel_rfl,by kernel_rfl,by kernel_rfl,by kernel_rfl⟩) ⟨_,Fy (λk=>by kernel_rfl) (by kernel_rfl),ao2 hc⟩
  ·obtain rfl:=uz h
   exact B9 hc ha (pz ⟨by kernel_rfl,by kernel_rfl,by kernel_rfl,by kernel_rfl,by kernel_rfl,by kernel_rfl,by kernel_rfl⟩) ⟨_,Fy (λk=>by kernel_rfl) (by kernel_rfl),ao3 hc⟩
  ·obtain rfl:=uz h
   exact B9 hc ha (pz ⟨by kernel_rfl,by kernel_rfl,by kernel_rfl,by kernel_rfl,by kernel_rfl,by kernel_rfl,by kernel_rfl⟩) ⟨_,Fy (λk=>by kernel_rfl) (by kernel_rfl),ao4 hc⟩
  ·obtain rfl:=uz h
   exact B9 hc ha (pz ⟨by kernel_rfl,by kernel_rfl,by kernel_rfl,by kernel_rfl,by kernel_rfl,by kernel_rfl,by kernel_rfl⟩) ⟨_,Fy (λk=>by kernel_rfl) (by kernel_rfl),as0 hc⟩
  ·obtain rfl:=uz h
   exact B9 hc ha (pz ⟨by kernel_rfl,by kernel_rfl,by kernel_rfl,by kernel_rfl,by kernel_rfl,by kernel_rfl,by kernel_rfl⟩) ⟨_,Fy (λk=>by kernel_rfl) (by kernel_rfl),as1 hc⟩
  ·obtain rfl:=uz h
   exact B9 hc ha (pz ⟨by kernel_rfl,by kernel_rfl,by kernel_rfl,by kernel_rfl,by kernel_rfl,by kernel_rfl,by kernel_rfl⟩) ⟨_,Fy (λk=>by kernel_rfl) (by kernel_rfl),ao5 hc⟩
  ·obtain rfl:=uz h
   exact B9 hc ha (pz ⟨by kernel_rfl,by kernel_rfl,by kernel_rfl,by kernel_rfl,by kernel_rfl,by kernel_rfl,by kernel_rfl⟩) ⟨_,Fy (λk=>by kernel_rfl) (by kernel_rfl),alO⟩
  ·obtain rfl:=uz h
   exact B9 hc ha (pz ⟨by kernel_rfl,by kernel_rfl,by kernel_rfl,by kernel_rfl,by kernel_rfl,by kernel_rfl,by kernel_rfl⟩) ⟨_,Fy (λk=>by kernel_rfl) (by kernel_rfl),as3⟩
 |[a],ha=>
  have h1:=c1 ha
  simp only[bd] at h1
  rcases h1 with h |h
  ·obtain rfl:=uz h
   exact MB hM ((6:Int),(a,(0,0))) hc ha rfl (λk=>by unfold jr;exact(cf (by kernel_rfl)).trans ((cf (by kernel_rfl)).trans ((cf (by kernel_rfl)).trans ((cf (by kernel_rfl)).trans ((cf (by kernel_rfl)).trans ((cf (by kernel_rfl)).trans (ct (by kernel_rfl)))))))) (λk=>by kernel_rfl) λhE k=>azU hE
  ·obtain rfl:=uz h
   refine B9 hc ha (pz ⟨by kernel_rfl,by kernel_rfl,by kernel_rfl,by kernel_rfl,by kernel_rfl,by kernel_rfl,by kernel_rfl⟩) ⟨λk=>tI (M+400) Z' a (λb=>pC (M+400) b k),λk=>?_,abz,λk=>?_,λk=>(anu a _).2⟩
   ·unfold GY
    have e:∀ k,iX (M+400) JX [a] k=k ((0:Int),((0:Int),((0:Int),(0:Int)))):=λk=>by kernel_rfl
    rw[e,ct (a:=JX) (b:=JX) (by kernel_rfl)]
    rfl
   ·unfold gP
    refine((cf (by kernel_rfl)).trans ((cf (by kernel_rfl)).trans ((cf (by kernel_rfl)).trans ((cf (by kernel_rfl)).trans ((cf (by kernel_rfl)).trans ((cf (by kernel_rfl)).trans ((cf (by kernel_rfl)).trans (ct (by kernel_rfl))))))))).trans ?_
    unfold oh
    exact(aDJ a λx=>Ak (M+400) Z' x λb=>Ei (M+400) b k).trans (anu a _).1
 |[a,b],ha=>
  have h1:=c2 ha
  simp only[bd] at h1
  rcases h1 with h |h
  ·obtain rfl:=uz h
   exact MB hM ((1:Int),(a,(b,0))) hc ha rfl (λk=>by unfold jr;exact(cf (by kernel_rfl)).trans (ct (by kernel_rfl))) (λk=>by kernel_rfl) λhE k=>aCK hE
  ·obtain rfl:=uz h
   exact MB hM ((2:Int),(a,(b,0))) hc ha rfl (λk=>by unfold jr;exact(cf (by kernel_rfl)).trans ((cf (by kernel_rfl)).trans (ct (by kernel_rfl)))) (λk=>by kernel_rfl) λhE k=>azS hE
 |[a,b,d],ha=>
  obtain rfl:=uz (c3 ha)
  exact MB hM ((4:Int),(b,(d,a))) hc ha rfl (λk=>by unfold jr;exact(cf (by kernel_rfl)).trans ((cf (by kernel_rfl)).trans ((cf (by kernel_rfl)).trans ((cf (by kernel_rfl)).trans (ct (by kernel_rfl)))))) (λk=>by kernel_rfl) λhE k=>avH hE
 |a::b::d::e::n,ha=>
  simp only[ak] at ha
  omega
end
end Go.Pv.R
namespace Go.Pv.R
open List Int IntKind
abbrev VV:Type:=Fin 64->Bool
def Gu (i x:Int):Bool:=(wrap .i64 (BitVec.toNat (BitVec.ofInt (IntKind.bits .i64) (Int.fdiv i (2^(min (toNat x) (IntKind.bits .i64))))&&&BitVec.ofInt (IntKind.bits .i64) (1:Int))))==(1:Int)
def tO (v:Int):VV:=λm=>(BitVec.ofInt 64 v).getLsbD m.val
def avM (x:Int):VV:=λm=>Gu (m.val:Int) x
def opV (x:Int) (a b:VV):VV:=λm=>bif x== -2 then a m&&b m else bif x== -3 then a m||b m else !a m||b m
def Kh (x:Int) (S:List VV):List VV:=bif pk x 0 5 then S++[avM x] else bif x== -1 then S.set (S.length - 1) (λm=>!(S.getD (S.length - 1) (λ_=>false)) m) else S.take (S.length - 2)++[opV x (S.getD (S.length - 2) (λ_=>false)) (S.getD (S.length - 1) (λ_=>false))]
theorem ao9 {x:Int} {S:List VV} {d:Nat} (h:isStep x S.length=some d):(Kh x S).length=d:=by
 unfold isStep at h;unfold Kh;cases h0:pk x 0 5 with
 |true=>rw[h0,ab] at h;injection h with h;simp[h]
 |false=>
 rw[h0,ae] at h;cases h1:x== -1 with
 |true=>
  rw[h1] at h;cases h2:decide (1<=S.length) with
  |true=>rw[h2] at h;injection h with h;simp[h]
  |false=>rw[h2] at h;have h3:decide (2<=S.length)=false:=(by rw[decide_eq_false_iff_not] at h2 ⊢;omega);rw[h3] at h;simp at h
 |false=>
 rw[h1] at h;cases h2:pk x (-4) (-2)&&decide (2<=S.length) with
 |true=>rw[h2] at h;simp only[ai,au] at h2;injection h with h;simp only[ae,ax,aH,ak,ao];omega
 |false=>rw[h2] at h;cases h
theorem acL {σ:Type} {body:Nat->Int->σ->(σ->aa)->aa} {k:σ->aa} (Rel:σ->List VV->Prop) (B:Nat) (hb:∀ (i:Nat) (x:Int) (s:σ) (S:List VV) (d:Nat),Rel s S->S.length<=B->isStep x S.length=some d->∃ s',Rel s' (Kh x S)/\∀ next,body i x s next=next s'):∀ (r:List Int) (i:Nat) (s:σ) (S:List VV) (d:Nat),Rel s S->S.length+r.length<=B->isG r S.length=some d-> ∃ s',Rel s' (r.foldl (λS x=>Kh x S) S)/\(r.foldl (λS x=>Kh x S) S).length=d/\dU body k r i s=k s'
 |[],i,s,S,d,h,hB,hg=>⟨s,h,by injection hg,rfl⟩
 |x::r,i,s,S,d,h,hB,hg=>by
  simp only[ak] at hB;simp only[isG] at hg;cases hs:isStep x S.length with
  |none=>rw[hs] at hg;cases hg
  |some e=>rw[hs] at hg;obtain⟨s',h1,h2⟩:=hb i x s S e h (by omega) hs;have hl:=ao9 hs;have hp:=I2 hs;obtain⟨s'',h3,h4,h5⟩:=acL (k:=k) Rel B hb r (i+1) s' (Kh x S) d h1 (by omega) (by rw[hl];exact hg);exact⟨s'',h3,h4,by simp only[dU];rw[h2];exact h5⟩
def U64 (v:Int):Prop:=0<=v/\v<18446744073709551616
theorem acM {n:Nat} (h:n<18446744073709551616):wrap .u64 (n:Int)=(n:Int):=by simp[wrap,IntKind.bits,IntKind.signed];omega
theorem bvU (X:BitVec 64):wrap .u64 (X.toNat:Int)=(X.toNat:Int)/\U64 (wrap .u64 (X.toNat:Int))/\BitVec.ofInt 64 (wrap .u64 (X.toNat:Int))=X:=by have h:X.toNat<18446744073709551616:=X.isLt;rw[acM h];exact⟨rfl,⟨by omega,by omega⟩,by rw[nb,BitVec.ofNat_toNat,BitVec.setWidth_eq]⟩
theorem acN (X:BitVec 64):tO (wrap .u64 (X.toNat:Int))=λm=>X.getLsbD m.val:=by unfold tO;rw[(bvU X).2.2]
theorem WH (v:Int):U64 (TM .u64 v)/\tO (TM .u64 v)=λm=>!tO v m:=by
 have e:TM .u64 v=wrap .u64 ((BitVec.ofInt 64 18446744073709551615^^^BitVec.ofInt 64 v).toNat:Int):=rfl;rw[e];refine⟨(bvU _).2.1,?_⟩;rw[acN];funext m;have h1:(BitVec.ofInt 64 18446744073709551615)=BitVec.allOnes 64:=by decide+kernel
 rw[h1,BitVec.getLsbD_xor,BitVec.getLsbD_allOnes,af m.isLt,Bool.true_xor];rfl
theorem ate (a b:Int):U64 (wrap .u64 (BitVec.toNat (BitVec.ofInt (IntKind.bits .u64) a&&&BitVec.ofInt (IntKind.bits .u64) b)))/\tO (wrap .u64 (BitVec.toNat (BitVec.ofInt (IntKind.bits .u64) a&&&BitVec.ofInt (IntKind.bits .u64) b)))=λm=>tO a m&&tO b m:=by refine⟨(bvU _).2.1,?_⟩;refine(acN _).trans ?_;funext m;exact BitVec.getLsbD_and
theorem anv (a b:Int):U64 (wrap .u64 (BitVec.toNat (BitVec.ofInt (IntKind.bits .u64) a|||BitVec.ofInt (IntKind.bits .u64) b)))/\tO (wrap .u64 (BitVec.toNat (BitVec.ofInt (IntKind.bits .u64) a|||BitVec.ofInt (IntKind.bits .u64) b)))=λm=>tO a m||tO b m:=by refine⟨(bvU _).2.1,?_⟩;refine(acN _).trans ?_;funext m;exact BitVec.getLsbD_or
def ae1:List Int:=[12297829382473034410,14757395258967641292,17361641481138401520,18374966859414961920,18446462603027742720,18446744069414584320]
theorem azX (M:Nat) (k:Int->aa):∀ a:Nat,a<6->uQ (M+400) (a:Int) k=k (ae1.getD a 0)
 |0,_=>by kernel_rfl
 |1,_=>by kernel_rfl
 |2,_=>by kernel_rfl
 |3,_=>by kernel_rfl
 |4,_=>by kernel_rfl
 |5,_=>by kernel_rfl
 |n+6,h=>by omega
theorem atf:∀ (a:Fin 6) (m:Fin 64),tO (ae1.getD a.val 0) m=avM (a.val:Int) m:=by decide+kernel
theorem aCO:∀ a:Fin 6,0<=ae1.getD a.val 0/\ae1.getD a.val 0<18446744073709551616:=by decide+kernel
theorem azY (M:Nat) (m:Int) (k:List Bool->aa):JY (M+400) m k=k [Gu m 0,Gu m 1,Gu m 2,Gu m 3,Gu m 4,Gu m 5]:=by kernel_rfl
theorem take_set {α:Type} (y:α):∀ (s:List α) (n:Nat),n<s.length->(s.take (n+1)).set n y=s.take n++[y]
 |[],n,h=>by simp at h
 |a::s,0,h=>by simp
 |a::s,n+1,h=>by have:=take_set y s n (by simpa using h);simp[this]
theorem getD_map {α β:Type} (f:α->β) (s:List α) (i:Nat) (z:α) (w:β) (h:i<s.length):(s.map f).getD i w=f (s.getD i z):=by rw[aO _ _ h,aO _ _ (by rw[aY];exact h),qm]
def azZ (s:List Int) (S:List VV):Prop:=s.map tO=S/\∀ v∈s,U64 v
theorem ajm {x:Int} {n:Nat} {d:Nat} (h0:pk x 0 5=false) (h1:(x== -1)=true) (h:isStep x n=some d):1<=n:=by
 unfold isStep at h;rw[h0,h1] at h;by_cases hn:1<=n
 ·exact hn
 rw[an hn,an (show ¬ 2<=n by omega)] at h;simp at h
theorem ajn {x:Int} {n:Nat} {d:Nat} (h0:pk x 0 5=false) (h1:(x== -1)=false) (h:isStep x n=some d):2<=n/\pk x (-4) (-2)=true:=by
 unfold isStep at h;rw[h0,h1] at h;cases h2:pk x (-4) (-2)&&decide (2<=n) with
 |true=>simp only[ai,au] at h2;exact⟨h2.2,h2.1⟩
 |false=>rw[h2] at h;simp at h
theorem atg (x a b:Int):U64 (opI x a b)/\tO (opI x a b)=opV x (tO a) (tO b):=by
 unfold opI opV;cases x== -2 with
 |true=>exact ate a b
 |false=>
 cases x== -3 with
 |true=>exact anv a b
 |false=>have h:=anv (TM .u64 a) b;rw[(WH a).2] at h;exact h
theorem agu {a:Int} (h:U64 a):((BitVec.ofInt 64 a).toNat:Int)=a:=by unfold U64 at h;rw[BitVec.toNat_ofInt];omega
theorem ae2 {a b:Int} (ha:U64 a) (hb:U64 b) (h:tO a=tO b):a=b:=by have e:BitVec.ofInt 64 a=BitVec.ofInt 64 b:=BitVec.eq_of_getLsbD_eq λi hi=>congrFun h ⟨i,hi⟩;rw[←agu ha,←agu hb,e]
theorem ajo {s:List Int} {S:List VV} (hp:azZ s S) (hl:S.length=1):∃ R,s=[R]/\U64 R/\S=[tO R]:=by
 have hs:s.length=1:=by rw[←hp.1,aY] at hl;exact hl
 match s,hs with
 |[R],_=>exact⟨R,rfl,hp.2 R (by simp),hp.1.symm⟩
theorem ao' {M:Nat} {f:List Int} (hf:Fx f=true):∃ R,U64 R/\f.foldl (λS x=>Kh x S) []=[tO R]/\∀ kf,tJ (M+400) f kf=kf R true:=by
 have hx:=aU;obtain⟨l1,l2⟩:=I3 hf;have hg:isG f 0=some 1:=by unfold Fx at hf;simp only[ai,bP] at hf;exact hf.2
 have key:∀ kf:Int->Bool->aa,∃ s':List Int,azZ s' (f.foldl (λS x=>Kh x S) [])/\(f.foldl (λS x=>Kh x S) []).length=1/\tJ (M+400) f kf=(bif (bp (0:Int) (length s')) then kf (getD s' (toNat (0:Int)) (0:Int)) ((length s':Int)==(1:Int)) else none):=λkf=>by
  unfold tJ;rw[eX,mv.2 (by omega)];simp only[az,ae];rw[Mo (by omega) (by omega)];refine acL azZ 100 (λi x s S d hR hB hs=>?_) f 0 [] [] 1 ⟨rfl,λv hv=>by cases hv⟩ (by simp;omega) hg;obtain⟨hS,hU⟩:=hR;have hlen:S.length=s.length:=by rw[←hS,aY]
  rw[hlen] at hs hB;simp only[eX];unfold Kh;rw[hlen];cases h5:pk x 0 5 with
  |true=>
  rw[mv] at h5;obtain⟨a,rfl⟩:∃ a:Nat,x=(a:Int):=⟨x.toNat,by omega⟩;have ha:a<6:=(by omega);refine⟨s++[ae1.getD a 0],⟨?_,λv hv=>?_⟩,λnext=>?_⟩
  ·rw[ab,iL,hS,bz,qW];have:tO (ae1.getD a 0)=avM (a:Int):=funext λm=>atf ⟨a,ha⟩ m;rw[this]
  ·rcases a8.1 hv with hv |hv
   ·exact hU v hv
   rw[bj.1 hv];exact aCO ⟨a,ha⟩
  simp only[ab];rw[azX M _ a ha,af (by simp;omega)];rfl
  |false=>
  simp only[ae];cases hm:x== -1 with
  |true=>
  have h1:=ajm h5 hm hs;have w1:wrap .i64 ((length s:Int) - 1)=((s.length - 1:Nat):Int):=(by rw[iD];omega);refine⟨List.set s (s.length - 1) (TM .u64 (getD s (s.length - 1) 0)),⟨?_,λv hv=>?_⟩,λnext=>?_⟩
  ·rw[ab,n7,hS,(WH _).2,←hS,getD_map tO s (s.length - 1) 0 _ (by omega)]
  ·rcases fK hv with hv |rfl
   ·exact hU v hv
   exact(WH _).1
  simp only[ab];rw[af (show(length s:Int)≥1 by omega),w1,aL (show s.length - 1<s.length by omega)];rfl
  |false=>
  obtain⟨h2,h3⟩:=ajn h5 hm hs;refine⟨opS x s,⟨?_,λv hv=>?_⟩,λnext=>?_⟩
  ·have e:opS x s=s.take (s.length - 2)++[opI x (getD s (s.length - 2) 0) (getD s (s.length - 1) 0)]:=(by unfold opS;have:=take_set (opI x (getD s (s.length - 2) 0) (getD s (s.length - 1) 0)) s (s.length - 2) (by omega);rw[show s.length - 2+1=s.length - 1 by omega] at this;exact this);rw[e,iL,zI,hS,bz,qW,(atg x _ _).2,←hS,getD_map tO s (s.length - 1) 0 _ (by omega),getD_map tO s (s.length - 2) 0 _ (by omega)];rfl
  ·unfold opS at hv;rcases fK hv with hv |rfl
   ·exact hU v (fJ hv)
   exact(atg x _ _).1
  simp only[ae,h3,ab];exact asT (x:=x) h2 (by omega) next _
 obtain⟨s0,hp,hl,e0⟩:=key λ_ _=>none;obtain⟨R,rfl,hR,e1⟩:=ajo hp hl;refine⟨R,hR,e1,λkf=>?_⟩;obtain⟨s1,hp1,Va,e2⟩:=key kf;obtain⟨R1,rfl,hR1,e3⟩:=ajo hp1 Va;rw[e2,ae2 hR1 hR (List.cons.inj (e3.symm.trans e1)).1];rfl
def avN (f:List Int) (m:Fin 64):Bool:=((f.foldl (λS x=>Kh x S) []).getD 0 (λ_=>false)) m
theorem ath {M:Nat} {f:List Int} (hf:Fx f=true) (m:Fin 64) (kf:Bool->aa):JY (M+400) (m.val:Int) (λrow=>Iv (M+400) f row kf)=kf (avN f m):=by
 have hx:=aU;obtain⟨l1,l2⟩:=I3 hf;have hg:isG f 0=some 1:=by unfold Fx at hf;simp only[ai,bP] at hf;exact hf.2
 rw[azY];have wu:∀ a:Nat,a<6->getD [Gu (m.val:Int) 0,Gu (m.val:Int) 1,Gu (m.val:Int) 2,Gu (m.val:Int) 3,Gu (m.val:Int) 4,Gu (m.val:Int) 5] a false=avM (a:Int) m:=λa ha=>by
  match a,ha with
  |0,_=>rfl
  |1,_=>rfl
  |2,_=>rfl
  |3,_=>rfl
  |4,_=>rfl
  |5,_=>rfl
 have hrl:(length [Gu (m.val:Int) 0,Gu (m.val:Int) 1,Gu (m.val:Int) 2,Gu (m.val:Int) 3,Gu (m.val:Int) 4,Gu (m.val:Int) 5])=6:=rfl;generalize [Gu (m.val:Int) 0,Gu (m.val:Int) 1,Gu (m.val:Int) 2,Gu (m.val:Int) 3,Gu (m.val:Int) 4,Gu (m.val:Int) 5]=row at*;have hp:∀ S:List VV,∀ i,i<S.length->(S.map λv=>v m).getD i false=(S.getD i (λ_=>false)) m:=λS i hi=>getD_map (λv:VV=>v m) S i (λ_=>false) false hi;have key:∃ s':List Bool,s'=((f.foldl (λS x=>Kh x S) []).map λv=>v m)/\(f.foldl (λS x=>Kh x S) []).length=1/\Iv (M+400) f row kf=(bif (bp (0:Int) (length s')) then kf (getD s' (toNat (0:Int)) false) else none):=by
  unfold Iv;rw[B8 (by omega) (by omega),hf];simp only[az,ae];rw[ZW (by omega) (by omega)];refine acL (λ(b:List Bool) (S:List VV)=>b=S.map λv=>v m) 100 (λi x b S d hR hB hs=>?_) f 0 [] [] 1 rfl (by simp;omega) hg;subst hR;have hlen:(S.map λv=>v m).length=S.length:=aY ..;unfold Kh;cases h5:pk x 0 5 with
  |true=>rw[mv] at h5;obtain⟨a,rfl⟩:∃ a:Nat,x=(a:Int):=⟨x.toNat,by omega⟩;have ha:a<6:=(by omega);refine⟨_,rfl,λnext=>?_⟩;rw[af (show(a:Int)≥0 by omega),dZ,aL (by omega),aj,wu a ha,af (by simp only[aY,ak,ao];omega)];simp only[ab];rw[iL];rfl
  |false=>
  cases hm:x== -1 with
  |true=>have h1:=ajm h5 hm hs;have hx1:x=-1:=(by simpa using hm);have w1:wrap .i64 ((S.length:Int) - 1)=((S.length - 1:Nat):Int):=(by rw[iD];omega);refine⟨_,rfl,λnext=>?_⟩;rw[il,hlen,w1,aL (show S.length - 1<S.length by omega),aj,hp S _ (by omega)];simp only[ae,ab];rw[n7]
  |false=>obtain⟨h2,h3⟩:=ajn h5 hm hs;rw[mv] at h3;have w1:wrap .i64 ((S.length:Int) - 1)=((S.length - 1:Nat):Int):=(by rw[iD];omega);have w2:wrap .i64 ((S.length:Int) - 2)=((S.length - 2:Nat):Int):=(by rw[iD];omega);refine⟨_,rfl,λnext=>?_⟩;have fp:∀ (a b:Bool) (k:Bool->aa),It (M+400) x a b k=k (bif x== -2 then a&&b else bif x== -3 then a||b else !a||b):=λa b k=>(by unfold It;cases x== -2<;>cases x== -3<;>cases a<;>cases b<;>rfl);rw[il,hlen,w1,w2,aL (show S.length - 1<S.length by omega),aL (show S.length - 2<S.length by omega),aj,aj,hp S _ (by omega),hp S _ (by omega),fp,af (show(0:Int)<=0 by omega),af (show(0:Int)<=((S.length - 2:Nat):Int) by omega),af (show((S.length - 2:Nat):Int)<=(S.length:Int) by omega)];simp only[ae,ab,cM];rw[af (by simp only[aH,aY,ak,ao];omega),ab,iL,zI];rfl
 obtain⟨s',h1,h2,h3⟩:=key;have hl:s'.length=1:=by rw[h1,aY];exact h2
 rw[h3,show bp (0:Int) (length s')=true from aL (i:=0) (by omega),ab];congr 1;show s'.getD 0 false=_;rw[h1,hp _ 0 (by omega)];rfl
end Go.Pv.R
namespace Go.Pv.R
open List Int IntKind
def I4 (c:Nat):Nat->Nat
 |0=>0
 |k+1=>c+256*I4 c k
theorem MC (a c m:Nat) (hc:c<256):a&&&(c+256*m)=(a%256&&&c)+256*(a/256&&&m):=by
 have h1:(a&&&(c+256*m))%2^8=a%2^8&&&(c+256*m)%2^8:=Nat.and_mod_two_pow;have h2:(a&&&(c+256*m))/2^8=a/2^8&&&(c+256*m)/2^8:=Nat.and_div_two_pow;have h3:(c+256*m)%2^8=c:=by omega
 have h4:(c+256*m)/2^8=m:=by omega
 rw[h3,show(2:Nat)^8=256 from rfl] at h1;rw[h4,show(2:Nat)^8=256 from rfl] at h2;omega
def zQ (b:Nat):Nat:=(b/2&&&85)+(b&&&85)
def Qu (b:Nat):Nat:=(b/4&&&51)+(b&&&51)
def aDK (b:Nat):Nat:=(b/16+b)&&&15
def Lg (b:Nat):Nat:=aDK (Qu (zQ b))
def I5:Nat->Nat->List Nat
 |0,_=>[]
 |k+1,x=>x%256::I5 k (x/256)
def my:List Nat->Nat
 |[]=>0
 |b::r=>b+256*my r
theorem pt1:∀ (b:Fin 256) (v:Fin 2),((b.val/2+128*v.val)&&&85)=(b.val/2&&&85)/\zQ b.val<=170:=by decide+kernel
theorem pt2:∀ (b:Fin 256) (v:Fin 4),((b.val/4+64*v.val)&&&51)=(b.val/4&&&51):=by decide+kernel
theorem pt4:∀ (b:Fin 256),Qu (zQ b.val)<=68/\Qu (zQ b.val)%16<=4/\Qu (zQ b.val)/16<=4/\Lg b.val<=8:=by decide+kernel
theorem pt3:∀ (u:Fin 73) (v:Fin 5),((u.val+16*v.val)&&&15)=(u.val&&&15):=by decide+kernel
def sw1 (k x:Nat):Nat:=(x/2&&&I4 85 k)+(x&&&I4 85 k)
def sw2 (k x:Nat):Nat:=(x/4&&&I4 51 k)+(x&&&I4 51 k)
def sw3 (k x:Nat):Nat:=(x/16+x)&&&I4 15 k
theorem az0 (k x:Nat):sw1 k x=my ((I5 k x).map zQ):=by
 induction k generalizing x with
 |zero=>simp[sw1,I4,I5,my]
 |succ k ih=>have e:=ih (x/256);unfold sw1 at e ⊢;simp only[I4,I5,bz,my];rw[MC _ _ _ (by omega),MC _ _ _ (by omega),←e];have hx:x/2%256=x%256/2+128*(x/256%2):=(by omega);have hy:x/2/256=x/256/2:=(by omega);have h:=(pt1 ⟨x%256,by omega⟩ ⟨x/256%2,by omega⟩).1;simp only at h;rw[hx,hy,h];unfold zQ;omega
theorem ati (b:Nat) (r:List Nat) (h:b<256):my (b::r)/256=my r/\my (b::r)%256=b:=by simp only[my];omega
theorem atj:∀ (l:List Nat),(∀ b∈l,b<256)->sw2 l.length (my (l.map zQ))=my (l.map λb=>Qu (zQ b))
 |[],_=>by simp[sw2,I4,my]
 |b::r,h=>by have hb:=h b (by simp);have e:=atj r λy hy=>h y (by simp[hy]);have h1:=(pt1 ⟨b,hb⟩ 0).2;simp only at h1;unfold sw2 at e ⊢;obtain⟨h2,h3⟩:=ati (zQ b) (r.map zQ) (by omega);simp only[ak,I4,bz];rw[MC _ _ _ (by omega),MC _ _ _ (by omega),h2,h3];have hy:my (zQ b::List.map zQ r)/4/256=my (List.map zQ r)/4:=(by simp only[my];omega);have hx:my (zQ b::List.map zQ r)/4%256=zQ b/4+64*(my (List.map zQ r)%4):=(by simp only[my];omega);have t:=pt2 ⟨zQ b,by omega⟩ ⟨my (List.map zQ r)%4,by omega⟩;simp only at t;rw[hx,hy,t];simp only[my];rw[←e];unfold Qu;omega
theorem atk:∀ (l:List Nat),(∀ b∈l,b<256)->sw3 l.length (my (l.map λb=>Qu (zQ b)))=my (l.map Lg)
 |[],_=>by simp[sw3,I4,my]
 |b::r,h=>by
  have hb:=h b (by simp);have hr:∀ y∈r,y<256:=λy hy=>h y (by simp[hy]);have e:=atk r hr;obtain⟨h1,h2,h3,h4⟩:=pt4 ⟨b,hb⟩;simp only at h1 h2 h3 h4;have hn:my (r.map λb=>Qu (zQ b))%16<=4:=by
   cases r with
   |nil=>simp[my]
   |cons d r=>have:=(pt4 ⟨d,hr d (by simp)⟩).2.1;simp only at this;simp only[bz,my];omega
  unfold sw3 at e ⊢;simp only[ak,I4,bz,my];generalize my (r.map λb=>Qu (zQ b))=z at*;rw[MC _ _ _ (by omega)];have hx:((Qu (zQ b)+256*z)/16+(Qu (zQ b)+256*z))%256=(Qu (zQ b)/16+Qu (zQ b))+16*(z%16):=by omega
  have hy:((Qu (zQ b)+256*z)/16+(Qu (zQ b)+256*z))/256=z/16+z:=(by omega);have t:=pt3 ⟨Qu (zQ b)/16+Qu (zQ b),by omega⟩ ⟨z%16,by omega⟩;simp only at t;rw[hx,hy,t,e];rfl
def Pd:Nat->Nat->Nat
 |0,_=>0
 |k+1,x=>x%2+Pd k (x/2)
theorem atl:∀ b:Fin 256,Lg b.val=Pd 8 b.val:=by decide+kernel
theorem Ap (n x:Nat):Pd (n+8) x=Lg (x%256)+Pd n (x/256):=by
 have h:=atl ⟨x%256,by omega⟩;simp only at h;rw[h];have e:x/2/2/2/2/2/2/2/2=x/256:=by omega
 simp only[Pd,e];omega
theorem ae3:∀ (k x:Nat),∀ b∈I5 k x,b<256
 |0,_,b,h=>by simp[I5] at h
 |k+1,x,b,h=>by
  rcases aS.1 h with rfl |h
  ·omega
  exact ae3 k _ b h
theorem acO:∀ (k x:Nat),(I5 k x).length=k
 |0,_=>rfl
 |k+1,x=>by simp[I5,acO k]
theorem Ki {b:Nat} (h:b<256):Lg b<=8:=(pt4 ⟨b,h⟩).2.2.2
def atm (x:Nat):Nat:=
 let x:=sw1 8 x
 let x:=sw2 8 x
 let x:=sw3 8 x
 let x:=x+x/256
 let x:=x+x/65536
 let x:=x+x/4294967296
 x%128
theorem atn (x:Nat):atm x=Pd 64 x/\sw3 8 (sw2 8 (sw1 8 x))<1000000000000000000:=by
 have hl:=acO 8 x;have h:=ae3 8 x;have e2:=atj (I5 8 x) h;have e3:=atk (I5 8 x) h;rw[hl] at e2 e3;unfold atm;simp only[az0,e2,e3];have c:Pd 64 x=Lg (x%256)+(Lg (x/256%256)+(Lg (x/256/256%256)+(Lg (x/256/256/256%256)+(Lg (x/256/256/256/256%256)+(Lg (x/256/256/256/256/256%256)+(Lg (x/256/256/256/256/256/256%256)+(Lg (x/256/256/256/256/256/256/256%256)+0))))))):=by rw[Ap 56,Ap 48,Ap 40,Ap 32,Ap 24,Ap 16,Ap 8,Ap 0,Pd]
 rw[c];simp only[I5,bz,qW];have p0:=Ki (b:=x%256) (by omega);have p1:=Ki (b:=x/256%256) (by omega);have p2:=Ki (b:=x/256/256%256) (by omega);have p3:=Ki (b:=x/256/256/256%256) (by omega);have p4:=Ki (b:=x/256/256/256/256%256) (by omega);have p5:=Ki (b:=x/256/256/256/256/256%256) (by omega);have p6:=Ki (b:=x/256/256/256/256/256/256%256) (by omega);have p7:=Ki (b:=x/256/256/256/256/256/256/256%256) (by omega);generalize Lg (x%256)=c0 at*;generalize Lg (x/256%256)=c1 at*;generalize Lg (x/256/256%256)=c2 at*;generalize Lg (x/256/256/256%256)=c3 at*;generalize Lg (x/256/256/256/256%256)=c4 at*;generalize Lg (x/256/256/256/256/256%256)=c5 at*;generalize Lg (x/256/256/256/256/256/256%256)=c6 at*;generalize Lg (x/256/256/256/256/256/256/256%256)=c7 at*;clear c e2 e3 h hl;have f1:my [c0,c1,c2,c3,c4,c5,c6,c7]+my [c0,c1,c2,c3,c4,c5,c6,c7]/256=my [c0+c1,c1+c2,c2+c3,c3+c4,c4+c5,c5+c6,c6+c7,c7]:=by simp only[my];omega
 rw[f1];have f2:my [c0+c1,c1+c2,c2+c3,c3+c4,c4+c5,c5+c6,c6+c7,c7]+my [c0+c1,c1+c2,c2+c3,c3+c4,c4+c5,c5+c6,c6+c7,c7]/65536=my [c0+c1+(c2+c3),c1+c2+(c3+c4),c2+c3+(c4+c5),c3+c4+(c5+c6),c4+c5+(c6+c7),c5+c6+c7,c6+c7,c7]:=by simp only[my];omega
 rw[f2];have f3:my [c0+c1+(c2+c3),c1+c2+(c3+c4),c2+c3+(c4+c5),c3+c4+(c5+c6),c4+c5+(c6+c7),c5+c6+c7,c6+c7,c7]/4294967296=my [c4+c5+(c6+c7),c5+c6+c7,c6+c7,c7]:=by simp only[my];omega
 rw[f3];clear f1 f2 f3;simp only[my];constructor<;>omega
theorem ato {a b:Nat} (ha:a<18446744073709551616) (hb:b<18446744073709551616):wrap .u64 (BitVec.toNat (BitVec.ofInt (IntKind.bits .u64) (a:Int)&&&BitVec.ofInt (IntKind.bits .u64) (b:Int)))=((a&&&b:Nat):Int):=by show wrap .u64 (BitVec.toNat (BitVec.ofInt 64 (a:Int)&&&BitVec.ofInt 64 (b:Int)):Int)=_;rw[(bvU _).1,BitVec.toNat_and,nb,nb,om,om,mG ha,mG hb]
theorem apa (a k:Nat) (hk:k<=64):Int.fdiv (a:Int) (2^(min (toNat (k:Int)) (IntKind.bits .u64)))=((a/2^k:Nat):Int):=by
 have e:min (toNat (k:Int)) (IntKind.bits .u64)=k:=by rw[aj];exact kQ hk
 rw[e,Int.fdiv_eq_ediv_of_nonneg _ (by exact Int.le_of_lt (Int.pow_pos (by omega)))];simp
theorem agv {a b c:Nat} (h:b<c):(a&&&b)<c:=nJ Nat.and_le_right h
theorem avO {N x:Nat} {k:Int->aa} (hx:x<18446744073709551616):qo N (x:Int) k=k ((Pd 64 x:Nat):Int):=by
 have m1:I4 85 8=6148914691236517205:=by decide
 have m2:I4 51 8=3689348814741910323:=by decide
 have m3:I4 15 8=1085102592571150095:=by decide
 obtain⟨h1,h2⟩:=atn x;unfold atm at h1;simp only at h1;have b1:=@agv (x/2) 6148914691236517205 6148914691236517206 (by omega);have b2:=@agv x 6148914691236517205 6148914691236517206 (by omega);have d1:sw1 8 x=(x/2&&&6148914691236517205)+(x&&&6148914691236517205):=by unfold sw1;rw[m1]
 have d2:sw2 8 (sw1 8 x)=(sw1 8 x/4&&&3689348814741910323)+(sw1 8 x&&&3689348814741910323):=by unfold sw2;rw[m2]
 have d3:sw3 8 (sw2 8 (sw1 8 x))=(sw2 8 (sw1 8 x)/16+sw2 8 (sw1 8 x))&&&1085102592571150095:=by unfold sw3;rw[m3]
 generalize sw1 8 x=X1 at*;have b3:=@agv (X1/4) 3689348814741910323 3689348814741910324 (by omega);have b4:=@agv X1 3689348814741910323 3689348814741910324 (by omega);generalize sw2 8 X1=X2 at*;generalize sw3 8 X2=X3 at*;have e1:wrap .u64 (BitVec.toNat (BitVec.ofInt (IntKind.bits .u64) (x:Int)&&&BitVec.ofInt (IntKind.bits .u64) (6148914691236517205:Int)))=((x&&&6148914691236517205:Nat):Int):=ato (b:=6148914691236517205) hx (by omega);have e2:Int.fdiv (x:Int) (2^(min (toNat (1:Int)) (IntKind.bits .u64)))=((x/2:Nat):Int):=apa x 1 (by omega);have e3:wrap .u64 (BitVec.toNat (BitVec.ofInt (IntKind.bits .u64) ((x/2:Nat):Int)&&&BitVec.ofInt (IntKind.bits .u64) (6148914691236517205:Int)))=((x/2&&&6148914691236517205:Nat):Int):=ato (b:=6148914691236517205) (by omega) (by omega);have e4:wrap .u64 (((x/2&&&6148914691236517205:Nat):Int)+((x&&&6148914691236517205:Nat):Int))=(X1:Int):=by rw[←lA,←d1,acM (by omega)]
 have e5:wrap .u64 (BitVec.toNat (BitVec.ofInt (IntKind.bits .u64) (X1:Int)&&&BitVec.ofInt (IntKind.bits .u64) (3689348814741910323:Int)))=((X1&&&3689348814741910323:Nat):Int):=ato (b:=3689348814741910323) (by omega) (by omega);have e6:Int.fdiv (X1:Int) (2^(min (toNat (2:Int)) (IntKind.bits .u64)))=((X1/4:Nat):Int):=apa X1 2 (by omega);have e7:wrap .u64 (BitVec.toNat (BitVec.ofInt (IntKind.bits .u64) ((X1/4:Nat):Int)&&&BitVec.ofInt (IntKind.bits .u64) (3689348814741910323:Int)))=((X1/4&&&3689348814741910323:Nat):Int):=ato (b:=3689348814741910323) (by omega) (by omega);have e8:wrap .u64 (((X1/4&&&3689348814741910323:Nat):Int)+((X1&&&3689348814741910323:Nat):Int))=(X2:Int):=by rw[←lA,←d2,acM (by omega)]
 have e9:Int.fdiv (X2:Int) (2^(min (toNat (4:Int)) (IntKind.bits .u64)))=((X2/16:Nat):Int):=apa X2 4 (by omega);have e10:wrap .u64 (((X2/16:Nat):Int)+(X2:Int))=((X2/16+X2:Nat):Int):=by rw[←lA,acM (by omega)]
 have e11:wrap .u64 (BitVec.toNat (BitVec.ofInt (IntKind.bits .u64) ((X2/16+X2:Nat):Int)&&&BitVec.ofInt (IntKind.bits .u64) (1085102592571150095:Int)))=(X3:Int):=by rw[d3];exact ato (b:=1085102592571150095) (by omega) (by omega)
 have e12:Int.fdiv (X3:Int) (2^(min (toNat (8:Int)) (IntKind.bits .u64)))=((X3/256:Nat):Int):=apa X3 8 (by omega);have e13:wrap .u64 ((X3:Int)+((X3/256:Nat):Int))=((X3+X3/256:Nat):Int):=by rw[←lA,acM (by omega)]
 generalize hy:X3+X3/256=Y at*;have e14:Int.fdiv (Y:Int) (2^(min (toNat (16:Int)) (IntKind.bits .u64)))=((Y/65536:Nat):Int):=apa Y 16 (by omega);have e15:wrap .u64 ((Y:Int)+((Y/65536:Nat):Int))=((Y+Y/65536:Nat):Int):=by rw[←lA,acM (by omega)]
 generalize hz:Y+Y/65536=Z at*;have e16:Int.fdiv (Z:Int) (2^(min (toNat (32:Int)) (IntKind.bits .u64)))=((Z/4294967296:Nat):Int):=apa Z 32 (by omega);have e17:wrap .u64 ((Z:Int)+((Z/4294967296:Nat):Int))=((Z+Z/4294967296:Nat):Int):=by rw[←lA,acM (by omega)]
 generalize hw:Z+Z/4294967296=W at*;have e18:wrap .i64 (W:Int)=(W:Int):=iD;have e19:wrap .i64 (BitVec.toNat (BitVec.ofInt (IntKind.bits .i64) (W:Int)&&&BitVec.ofInt (IntKind.bits .i64) (127:Int)))=((W%128:Nat):Int):=by have q:(BitVec.ofInt 64 (W:Int)&&&BitVec.ofInt 64 (127:Int)).toNat=W%128:=(by have aDL:BitVec.ofInt 64 (127:Int)=BitVec.ofNat 64 127:=rfl;rw[BitVec.toNat_and,nb,aDL,om,om,mG (by omega),mG (by omega)];exact Nat.and_two_pow_sub_one_eq_mod W 7);show wrap .i64 ((BitVec.ofInt 64 (W:Int)&&&BitVec.ofInt 64 (127:Int)).toNat:Int)=_;rw[q,iD]
 unfold qo;simp only[af (show(0:Int)<=1 by omega),af (show(0:Int)<=2 by omega),af (show(0:Int)<=4 by omega),af (show(0:Int)<=8 by omega),af (show(0:Int)<=16 by omega),af (show(0:Int)<=32 by omega),ab,e1,e2,e3,e4,e5,e6,e7,e8,e9,e10,e11,e12,e13,e14,e15,e16,e17,e18,e19];rw[h1]
theorem agw:∀ (k x:Nat),Pd k x<=k
 |0,_=>aM _
 |k+1,x=>by have:=agw k (x/2);simp only[Pd];omega
theorem ajp:∀ (k x:Nat),Pd k x=k↔∀ m,m<k->x.testBit m=true
 |0,x=>⟨λ_ m h=>by omega,λ_=>rfl⟩
 |k+1,x=>by
  have ih:=ajp k (x/2);have hl:=agw k (x/2);simp only[Pd];constructor
  ·intro h m hm;cases m with
   |zero=>rw[Nat.testBit_zero,au];omega
   |succ m=>rw[Nat.testBit_succ];exact ih.1 (by omega) m (by omega)
  intro h;have h0:=h 0 (by omega);rw[Nat.testBit_zero,au] at h0;have:=ih.2 λm hm=>by have:=h (m+1) (by omega);rwa [Nat.testBit_succ] at this
  omega
theorem Ux {R:Int} (h:U64 R) (m:Fin 64):tO R m=R.toNat.testBit m.val:=by
 have e:(BitVec.ofInt 64 R).toNat=R.toNat:=by have:=agu h;omega
 show(BitVec.ofInt 64 R).getLsbD m.val=_;rw[←e,BitVec.testBit_toNat]
theorem Uy {M x:Nat} {f:List Int} {K:Int->aa} (hf:Fx f=true) (hv:∀ m:Fin 64,avN f m=x.testBit m.val):∀ (d i n c:Nat),i+d=64->d<n->c<=i->l4 (M+400) f n K (c:Int) (i:Int)=K ((c+Pd d (x/2^i):Nat):Int)
 |0,i,n,c,hi,hn,hc=>by obtain⟨n,rfl⟩:∃ j,n=j+1:=⟨n - 1,by omega⟩;unfold l4;rw[il];rfl
 |d+1,i,n,c,hi,hn,hc=>by
  obtain⟨n,rfl⟩:∃ j,n=j+1:=⟨n - 1,by omega⟩;have hw1:wrap .i64 ((i:Int)+1)=((i+1:Nat):Int):=(by rw[iD];omega);have Nh:wrap .i64 ((c:Int)+1)=((c+1:Nat):Int):=(by rw[iD];omega);have e2:x/2^i/2=x/2^(i+1):=(by rw[Nat.div_div_eq_div_mul,oo]);have hb:x.testBit i=decide (x/2^i%2=1):=Nat.testBit_eq_decide_div_mod_eq;unfold l4;rw[dZ,ab,ath hf ⟨i,by omega⟩,hv ⟨i,by omega⟩,hb,hw1,Nh];simp only[Pd,e2];by_cases h1:x/2^i%2=1
  ·rw[af h1,ab,Uy hf hv d (i+1) n (c+1) (by omega) (by omega) (by omega),h1];congr 2;omega
  rw[an h1,ae,Uy hf hv d (i+1) n c (by omega) (by omega) (by omega)];congr 2;omega
theorem alQ {M:Nat} {f:List Int} (hf:Fx f=true):∃ (n:Nat) (b:Bool),n<=64/\(∀ k,wK (M+400) f k=k (n:Int))/\(∀ k,l5 (M+400) f k=k (n:Int))/\(∀ k,yi (M+400) f k=k b)/\∀ k,rQ (M+400) f k=k b:=by
 obtain⟨R,hR,hS,hI⟩:=ao' (M:=M) hf;have hRn:R=(R.toNat:Int):=by unfold U64 at hR;omega
 have hv:∀ m:Fin 64,avN f m=R.toNat.testBit m.val:=λm=>by unfold avN;rw[hS,←Ux hR];rfl
 have hc:∀ k,l5 (M+400) f k=k ((Pd 64 R.toNat:Nat):Int):=λk=>by unfold l5;have:=Uy (M:=M) (K:=k) hf hv 64 0 (M+400) 0 (by omega) (by omega) (by omega);simp only[Nat.pow_zero,Nat.div_one,aW] at this;exact this
 have gC:R.toNat<18446744073709551616:=by unfold U64 at hR;omega
 refine⟨Pd 64 R.toNat,decide (Pd 64 R.toNat=64),agw _ _,λk=>?_,hc,λk=>?_,λk=>?_⟩
 ·unfold wK;rw[hI];simp only[az,ae];have:=avO (N:=M+400) (k:=k) gC;rw[←hRn] at this;exact this
 ·unfold yi;rw[hI,ab];refine br k ?_;rw[b7,bP,au,ajp];have hn:=WH R;constructor
  ·intro h m hm;have:=congrFun hn.2 ⟨m,hm⟩;rw[h] at this;have h0:tO 0 ⟨m,hm⟩=false:=by show(BitVec.ofInt 64 0).getLsbD m=false;rw[show BitVec.ofInt 64 0=0#64 from rfl,BitVec.getLsbD_zero]
   rw[h0,Ux hR] at this;simpa using this.symm
  intro h;refine ae2 hn.1 ⟨by omega,by omega⟩ (hn.2.trans ?_);funext m;have h0:tO 0 m=false:=by show(BitVec.ofInt 64 0).getLsbD m.val=false;rw[show BitVec.ofInt 64 0=0#64 from rfl,BitVec.getLsbD_zero]
  rw[h0,Ux hR,h m.val m.isLt];rfl
 unfold rQ;rw[hc];refine br k ?_;rw[b7,bP,au];omega
theorem avP {N:Nat} {s:ByteArray} (hN:2000<N):∃ (r:List Int) (b:Bool),(b=true->Fx r=true)/\(∀ kf,fW N s kf=kf r b)/\∀ kf,jY N s kf=kf r b:=by
 by_cases h:∃ t,asV s t
 ·obtain⟨t,ht⟩:=h;exact⟨Kf t,true,λ_=>ht.2.1,λkf=>ajh ht (by omega),λkf=>aji ht (by omega)⟩
 exact⟨[],false,λh=>(by cases h),λkf=>alL (λt ht=>h ⟨t,ht⟩) hN,λkf=>alM (λt ht=>h ⟨t,ht⟩) hN⟩
theorem apb {M:Nat} (hM:2000<M) (w v:ByteArray):∃ s:ByteArray,(∀ k,jn (M+400) [w,v] k=k s)/\∀ k:ByteArray->aa,(fW (M+400) v λr b=>bif (!b) then k gE else bif (ByteArray.toList w==ByteArray.toList Be) then l5 (M+400) r (λn=>cn (M+400) n k) else rQ (M+400) r (λb=>pC (M+400) b k))=k s:=by
 obtain⟨r,b,hb,hS,hI⟩:=avP (N:=M+400) (s:=v) (by omega);have Oc:∀ k,jn (M+400) [w,v] k=jY (M+400) v λr b=>bif (!b) then k gE else bif (ByteArray.toList w==ByteArray.toList Be) then wK (M+400) r (λn=>cO (M+400) n k) else yi (M+400) r (λb=>Ei (M+400) b k):=λk=>by have g1:getD [w,v] (toNat (1:Int)) ByteArray.empty=v:=rfl;have g0:getD [w,v] (toNat (0:Int)) ByteArray.empty=w:=rfl;have i1:bp (1:Int) (length [w,v])=true:=rfl;have i0:bp (0:Int) (length [w,v])=true:=rfl;have l2:((length [w,v]:Int) != 2)=false:=rfl;unfold jn;simp only[g1,g0,i1,i0,l2,ab,ae]
 generalize (ByteArray.toList w==ByteArray.toList Be)=W at Oc ⊢;cases b with
 |false=>
 refine⟨gE,λk=>?_,λk=>?_⟩
 ·rw[Oc,hI];rfl
 rw[hS];rfl
 |true=>
 obtain⟨n,t,hn,h1,h2,h3,h4⟩:=alQ (M:=M) (hb rfl);have h64:M9 (n:Int):=⟨by omega,by omega⟩;refine⟨bif W then qX (n:Int) else bif t then aq1 else abz,λk=>?_,λk=>?_⟩
 ·rw[Oc,hI];rw[az,ae,h1,h3,fh h64];unfold Ei;cases W<;>cases t<;>rfl
 rw[hS];rw[az,ae,h2,h4,eN h64 (by omega)];unfold pC;cases W<;>cases t<;>rfl
end Go.Pv.R
namespace Go.Pv.R
open List Int IntKind
section
variable {M:Nat} {c:bE} {line:ByteArray}
theorem acP (w:ByteArray) (r:List ByteArray):getD (w::r) (toNat (0:Int)) ByteArray.empty=w/\bp (0:Int) (length (w::r))=true/\((length (w::r):Int)==0)=false/\List.drop (toNat (1:Int)) (List.take (toNat (length (w::r):Int)) (w::r))=r/\(decide ((0:Int)<=(1:Int))&&decide ((1:Int)<=(length (w::r):Int))&&decide ((length (w::r):Int)<=(length (w::r):Int)))=true:=by
 refine⟨rfl,aL (i:=0) (by simp),bw.2 (by simp only[ak];omega),?_,?_⟩
 ·rw[aj,km];rfl
 simp only[ak,ai,au];omega
theorem atp (hM:1048600<M) (hO:cS c (M+400)) (hs:line.size<=200) {w:ByteArray} {r:List ByteArray} (hw:Qs line=w::r) (k:bE->ByteArray->aa):jt (M+400) c line k=bif AT w Ir||AT w Be then jn (M+400) (w::r) (k c) else bif okA r then Qt (M+400) c w (N6 r) k else k c gE:=by
 obtain⟨g0,i0,l0,dl,d1⟩:=acP w r;have hl:=acJ line;rw[hw,ak] at hl;have hwl:wrap .i64 ((length (w::r):Int) - 1)=(length r:Int):=by rw[ak,iD];omega
 have e:∀ s,(ByteArray.toList w==ByteArray.toList s)=AT w s:=λs=>rfl;have hn:(length (N6 r):Int)=(length r:Int):=by unfold N6;rw[aY]
 unfold jt;rw[Uv (by omega) (by omega),hw];simp only[an (show ¬(ByteArray.size line:Int)>200 by omega),ae,l0,i0,g0,ab,e,hwl,d1,dl,cX hO,yp,ao0 hO (show 40<M+400 by omega) (show r.length<=2000001 by omega) (show r.length<M+400 by omega)];unfold Qt;simp only[yp,cX hO,hn];cases AT w Ir<;>cases AT w Be<;>cases (Lq w != (length r:Int))<;>cases okA r<;>rfl
theorem az1 (hM:1048600<M) (hO:cS c (M+400)) (w:ByteArray) (r:List ByteArray) (hl:r.length<=1048577) (k:bE->ByteArray->aa):sA (M+400) c k (w::r)=bif okA r then GY (M+400) c w (N6 r) k else k c gE:=by
 obtain⟨g0,i0,l0,dl,d1⟩:=acP w r;unfold sA;rw[d1,ab,dl,ao1 (A:=k c gE) (by omega) (by omega) (by omega) (λz=>by
  simp only[bC,ab]
  rw[dE hO])]
 cases okA r with
 |false=>rfl
 |true=>
 simp only[az,ae,ab,i0,g0];unfold GY;congr 1;funext q;cases decide (q.1>0) with
 |true=>rfl
 |false=>
 simp only[ae];by_cases l0:(N6 r).length=0
 ·have b0:((length (N6 r):Int)==0)=true:=bP.2 (by omega);simp only[b0,ab];rfl
 have b0:((length (N6 r):Int)==0)=false:=bw.2 (by omega);simp only[b0,ae];by_cases l1:(N6 r).length=1
 ·have b1:((length (N6 r):Int)==1)=true:=bP.2 (by omega);have i1:bp (0:Int) (length (N6 r))=true:=aL (i:=0) (by omega);simp only[b1,i1,ab];rfl
 have b1:((length (N6 r):Int)==1)=false:=bw.2 (by omega);simp only[b1,ae]
theorem atq (hM:1048600<M) (hO:cS c (M+400)) (hs:line.size<=200) {w:ByteArray} {r:List ByteArray} (hw:Qs line=w::r) (k:bE->ByteArray->aa):jk (M+400) c line k=bif decide (r.length=1)&&(AT w Ir||AT w Be) then (fW (M+400) (r.getD 0 ByteArray.empty) λr b=>bif (!b) then k c gE else bif (ByteArray.toList w==ByteArray.toList Be) then l5 (M+400) r (λn=>cn (M+400) n (k c)) else rQ (M+400) r (λb=>pC (M+400) b (k c))) else bif okA r then GY (M+400) c w (N6 r) k else k c gE:=by
 obtain⟨g0,i0,l0,dl,d1⟩:=acP w r;have hl:=acJ line;rw[hw,ak] at hl;have e:∀ s,(ByteArray.toList w==ByteArray.toList s)=AT w s:=λs=>rfl;have hj:=az1 hM hO w r (by omega) k;unfold jk;rw[Uw (by omega) (by omega),hw];simp only[l0,ae,an (show ¬(ByteArray.size line:Int)>200 by omega),i0,g0,ab,hj,e,dE hO];by_cases h1:r.length=1
 ·have b2:((length (w::r):Int)==2)=true:=bP.2 (by rw[ak];omega);have i1:bp (1:Int) (length (w::r))=true:=aL (i:=1) (by rw[ak];omega);have g1:getD (w::r) (toNat (1:Int)) ByteArray.empty=r.getD 0 ByteArray.empty:=rfl;simp only[b2,i1,g1,ab,af h1,aA];cases AT w Ir<;>cases AT w Be<;>rfl
 have b2:((length (w::r):Int)==2)=false:=bw.2 (by rw[ak];omega);simp only[b2,ae,an h1,fi]
theorem alR (w:ByteArray) (r:List ByteArray) (h:r.length≠1) (k:ByteArray->aa):jn (M+400) (w::r) k=k gE:=by have b:((length (w::r):Int) != 2)=true:=qK.2 (by rw[ak];omega);unfold jn;rw[b,ab]
theorem atr (hM:1048600<M) (hc:dm c=true) (hs:line.size<=1048576):Out (jt (M+400) c line) (jk (M+400) c line):=by
 have hO:=(th hc).okC (N:=M+400) (by omega)
 by_cases avD:line.size<=200
 rotate_left
 ·refine⟨c,gE,hc,λk=>?_,λk=>?_⟩
  ·unfold jt
   rw[Uv (by omega) (by omega)]
   simp only[af (show(ByteArray.size line:Int)>200 by omega),ab,cX hO]
  ·unfold jk
   rw[Uw (by omega) (by omega)]
   simp only[af (show(ByteArray.size line:Int)>200 by omega),ab,dE hO]
   cases ((length (Qs line):Int)==0)<;>rfl
 cases hw:Qs line with
 |nil=>
  refine⟨c,gE,hc,λk=>?_,λk=>?_⟩
  ·unfold jt
   rw[Uv (by omega) (by omega),hw]
   simp only[cX hO]
   cases decide ((ByteArray.size line:Int)>200)<;>rfl
  ·unfold jk
   rw[Uw (by omega) (by omega),hw]
   simp only[dE hO]
   rfl
 |cons w r=>
  have eI:=atp hM hO avD hw
  have eS:=atq hM hO avD hw
  cases hf:(AT w Ir||AT w Be) with
  |true=>
   simp only[hf,ab,cM] at eI eS
   by_cases h1:r.length=1
   ·obtain⟨v,rfl⟩:∃ v,r=[v]:=by
     match r,h1 with
     |[v],_=>exact⟨v,rfl⟩
    obtain⟨s,f1,f2⟩:=apb (M:=M) (by omega) w v
    refine⟨c,s,hc,λk=>?_,λk=>?_⟩
    ·rw[eI,f1]
    ·rw[eS,af h1,ab]
     exact f2 (k c)
   ·have ha:Lq w≠((N6 r).length:Int):=by
     simp only[bd] at hf
     have:Lq w=-1:=by
      rcases hf with h |h
      ·rw[uz h];decide+kernel
      ·rw[uz h];decide+kernel
     omega
    refine⟨c,gE,hc,λk=>?_,λk=>?_⟩
    ·rw[eI,alR w r h1]
    ·rw[eS,an h1,ae]
     cases okA r with
     |false=>rfl
     |true=>rw[ab,acK hO ha]
  |false=>
   simp only[hf,ae,dN] at eI eS
   cases ho:okA r with
   |false=>
    simp only[ho,ae] at eI eS
    exact⟨c,gE,hc,eI,eS⟩
   |true=>
    simp only[ho,ab] at eI eS
    obtain⟨x,s,h1,h2,h3⟩:=ao8 (M:=M) (c:=c) (by omega) w (N6 r) hc
    exact⟨x,s,h1,λk=>(eI k).trans (h2 k),λk=>(eS k).trans (h3 k)⟩
end
end Go.Pv.R
namespace Go.Pv.R
open List Int IntKind
def Uz:List UInt8->List UInt8->List (List UInt8)
 |p,[]=>bif Pc p then [p] else []
 |p,b::r=>bif b==10 then p::Uz [] r else Uz (p++[b]) r
def ajq (L:List (List UInt8)):List (List UInt8):=bif Pc (L.getLastD []) then L else L.dropLast
theorem alS:∀ (r p:List UInt8),Uz p r=ajq (gl p (O' 10 r))
 |[],p=>by unfold Uz ajq;show(bif Pc p then [p] else [])=bif Pc ((gl p [[]]).getLastD []) then gl p [[]] else(gl p [[]]).dropLast;simp only[gl,b6];rfl
 |b::r,p=>by
  obtain⟨v,vs,e⟩:=Mv 10 r;unfold Uz;cases hb:b==10 with
  |true=>rw[ab,alS r []];unfold ajq;simp only[O',hb,ab,e,gl,b6,bU,List.getLastD_cons];cases Pc (vs.getLastD v)<;>rfl
  |false=>rw[ae,alS r (p++[b])];simp only[O',hb,ae,e,gl,bu,iU]
def N7 (s:ByteArray):List ByteArray:=(Uz [] s.data.toList).map bY
theorem acQ:∀ (r p:List UInt8),(Uz p r).length<=r.length+1
 |[],p=>by unfold Uz;cases Pc p<;>simp
 |b::r,p=>by have h1:=acQ r [];have h2:=acQ r (p++[b]);unfold Uz;cases b==10<;>simp only[ab,ae,ak]<;>omega
theorem YH:∀ (r p:List UInt8),∀ l∈Uz p r,l.length<=p.length+r.length
 |[],p,l,h=>by
  unfold Uz at h;cases hp:Pc p with
  |true=>rw[hp] at h;rw[bj.1 h];simp
  |false=>rw[hp] at h;cases h
 |b::r,p,l,h=>by
  unfold Uz at h;cases hb:b==10 with
  |true=>
  rw[hb] at h;rcases aS.1 h with rfl |h
  ·omega
  have:=YH r [] l h;simp only[ao,ak] at*;omega
  |false=>rw[hb] at h;have:=YH r (p++[b]) l h;simp only[ax,ak,ao] at*;omega
theorem acR {N:Nat} {s:ByteArray} {kf:List ByteArray->Bool->aa} (hs:s.size<=1048576):qJ N s kf=qf N kf (N7 s):=by
 have hm:=aU;have hl:=aaw 10 s.data.toList;have rz:s.data.toList.length=s.size:=(Lib.size_eq s).symm;have hc:(Nat.blt (ByteArray.size s) 4294967281&&Nat.beq (ByteArray.size aq4) 1)=true:=by have h1:Nat.blt (ByteArray.size s) 4294967281=true:=(by rw[yU];omega);rw[h1];rfl
 have e32:Bd s aq4=(O' 10 s.data.toList).map bY:=aeT s 10;have hlm:N7 s=(ajq (O' 10 s.data.toList)).map bY:=by unfold N7;rw[alS];obtain⟨v,vs,e⟩:=Mv 10 s.data.toList;rw[e];rfl
 unfold qJ S11;rw[hc,ab,e32,hlm];dsimp only;generalize hL:O' 10 s.data.toList=L at*;have wj:L≠[]:=by rw[←hL];exact asJ 10 _
 have X6:0<L.length:=List.length_pos_iff.2 wj;have hlen:((L.map bY).length:Int)=(L.length:Int):=by rw[aY]
 have hw:wrap .i64 ((length (L.map bY):Int) - 1)=((L.length - 1:Nat):Int):=by rw[hlen,iD];omega
 have hg:getD (L.map bY) (L.length - 1) ByteArray.empty=bY (L.getLastD []):=by rw[aO _ _ (by rw[aY];omega),qm];congr 1;rw[List.getLastD_eq_getLast?,List.getLast?_eq_getElem?,aN (by omega)];rfl
 rw[hw,aL (by rw[aY];omega),ab,aj,hg];have hnp:=Rs (L.getLastD []);unfold ajq;cases hq:Pc (L.getLastD []) with
 |true=>rw[hq] at hnp;have:(ByteArray.toList (bY (L.getLastD []))==ByteArray.toList D9)=false:=(by simpa using hnp);rw[this];rfl
 |false=>rw[hq] at hnp;have:(ByteArray.toList (bY (L.getLastD []))==ByteArray.toList D9)=true:=(by simpa using hnp);have ht:List.drop (toNat (0:Int)) (List.take (L.length - 1) (L.map bY))=L.dropLast.map bY:=(by rw[List.dropLast_eq_take,zI];rfl);rw[this,ab,ht,af (show(0:Int)<=0 by omega),af (show(0:Int)<=((L.length - 1:Nat):Int) by omega),af (by rw[hlen];omega)];rfl
theorem Gv {s:ByteArray} {K:List ByteArray->aa} (hs:s.size<=1048576):∀ (r:List UInt8) (i a n:Nat) (o:List ByteArray),s.data.toList.drop i=r->a<=i->i<=s.size->r.length+1<n->o.length<=i-> fk s n K o (a:Int) (i:Int)=K (o++(Uz ((s.data.toList.drop a).take (i - a)) r).map bY)
 |[],i,a,n,o,hd,ha,hi,hn,ho=>by
  have rz:s.data.toList.length=s.size:=(Lib.size_eq s).symm;have lT:i=s.size:=(by have:=br length hd;simp only[aX,ao] at this;omega);obtain⟨n,rfl⟩:∃ f,n=f+2:=⟨n - 2,by simp only[ao] at hn;omega⟩;have ahY:∀ (o:List ByteArray) (y:Int),fk s (n+1) K o y ((i:Int)+1)=K o:=λo y=>(by unfold fk;rw[il];rfl);have hb:((i:Int)==(ByteArray.size s:Int))=true:=(by rw[lT];simp);have hpl:((s.data.toList.drop a).take (i - a)).length=i - a:=(by rw[aH,aX];omega);unfold fk;rw[dZ,ab,hb,ab];unfold Uz;by_cases hae:a=i
  ·have h0:((a:Int)==(ByteArray.size s:Int))=true:=(by rw[hae,lT];simp);have hp:Pc ((s.data.toList.drop a).take (i - a))=false:=(by rw[hae,BW];rfl);rw[h0,hp];simp
  have h0:((a:Int)==(ByteArray.size s:Int))=false:=bw.2 (by omega);have hp:Pc ((s.data.toList.drop a).take (i - a))=true:=by
   cases hh:(s.data.toList.drop a).take (i - a) with
   |nil=>rw[hh] at hpl;simp at hpl;omega
   |cons x y=>rfl
  rw[h0,hp,ae];unfold uj;rw[hb,ab,af (show(0:Int)<=(a:Int) by omega),af (show(a:Int)<=(i:Int) by omega),af (show(i:Int)<=(ByteArray.size s:Int) by omega)];simp only[cM,ab,aj];rw[af (by simp only[ak,ao];omega),ab,iD,ahY,xw];rfl
 |b::r,i,a,n,o,hd,ha,hi,hn,ho=>by
  have rz:s.data.toList.length=s.size:=(Lib.size_eq s).symm;obtain⟨n,rfl⟩:∃ f,n=f+1:=⟨n - 1,by omega⟩;obtain⟨h1,h2,h3⟩:=Kg hd;simp only[ak] at hn;have gC:i<s.data.toList.length:=(by omega);have hbi:s.data.toList[i]?=some b:=(by rw[aT gC] at hd;injection hd with hb _;rw[aN gC,hb]);have wj:((i:Int)==(ByteArray.size s:Int))=false:=bw.2 (by omega);have hbb:((b.toNat:Int)==(10:Int))=(b==10):=by
   by_cases e:b=10
   ·subst e;rfl
   have h32:(10:UInt8).toNat=10:=rfl;have:((b.toNat:Int))≠10:=λh=>e (rn.1 (by omega));rw[bw.2 this,bw.2 e]
  have hw1:wrap .i64 ((i:Int)+1)=((i+1:Nat):Int):=(by rw[iD];omega);unfold fk;rw[dZ,ab,wj,ae];unfold uj;rw[wj,ae,aL h1,ab,h2,hbb,hw1];unfold Uz;cases hb:b==10 with
  |true=>rw[af (show(0:Int)<=(a:Int) by omega),af (show(a:Int)<=(i:Int) by omega),af (show(i:Int)<=(ByteArray.size s:Int) by omega)];simp only[cM,ab,aj];rw[af (by simp only[ak,ao];omega),ab,Gv hs r (i+1) (i+1) n _ h3 (aM _) (by omega) (by omega) (by simp;omega),xw,BW,bu];rfl
  |false=>rw[ae,ae,Gv hs r (i+1) a n o h3 (by omega) (by omega) (by omega) (by omega)];have e2:(s.data.toList.drop a).take (i+1 - a)=(s.data.toList.drop a).take (i - a)++[b]:=(by have h5:i+1 - a=(i - a)+1:=(by omega);have h4:a+(i - a)=i:=(by omega);rw[h5,List.take_add_one,cr,h4,hbi];rfl);rw[e2]
theorem acS {N:Nat} {s:ByteArray} {K:List ByteArray->aa} (hs:s.size<=1048576) (hN:s.size+10<N):fk s N K [] 0 0=K (N7 s):=by have rz:s.data.toList.length=s.size:=(Lib.size_eq s).symm;have h:=Gv (K:=K) hs s.data.toList 0 0 N [] rfl (aM _) (by omega) (by omega) (by simp);exact h
def anw (F:bE->ByteArray->(bE->ByteArray->aa)->aa) (i:Nat) (x:ByteArray) (c:bE) (o:List ByteArray) (next:bE->List ByteArray->aa):aa:=F c x λ(y:bE) (s:ByteArray)=>bif (decide ((length o+length [s])*1<=4398046511104)) then next y (o++[s]) else none
theorem ajr {F:bE->ByteArray->(bE->ByteArray->aa)->aa} {i:Nat} {x s:ByteArray} {c y:bE} {o:List ByteArray} {next:bE->List ByteArray->aa} (e:∀ k,F c x k=k y s) (hl:o.length<=1000):anw F i x c o next=next y (o++[s]):=by unfold anw;rw[e,af (by simp only[ak,ao];omega),ab]
theorem apc {M:Nat} (hM:1048600<M) (r:List ByteArray):∀ (i:Nat) (c:bE) (o:List ByteArray),(∀ v∈r,v.size<=1048576)->dm c=true->o.length+r.length<=1000->∃ o':List ByteArray,o'.length=o.length+r.length/\ (∀ k:List ByteArray->aa,Yc (anw (jt (M+400))) (λ(c:bE) (o:List ByteArray)=>k o) r i c o=k o')/\∀ k:List ByteArray->aa,Yc (anw (jk (M+400))) (λ(c:bE) (o:List ByteArray)=>k o) r i c o=k o':=by
 induction r with
 |nil=>exact λi c o h hc hl=>⟨o,by simp,λk=>rfl,λk=>rfl⟩
 |cons x r ih=>
 intro i c o h hc hl;simp only[ak] at hl;obtain⟨y,s,hy,e1,e2⟩:=atr hM hc (h x (by simp));obtain⟨o',h1,h2,h3⟩:=ih (i+1) y (o++[s]) (λv hv=>h v (by simp[hv])) hy (by simp;omega);refine⟨o',by rw[h1];simp;omega,λk=>?_,λk=>?_⟩
 ·simp only[Yc];rw[ajr e1 (by omega)];exact h2 k
 simp only[Yc];rw[ajr e2 (by omega)];exact h3 k
theorem att {M:Nat} (hM:1048600<M) {s:ByteArray} (hs:s.size<=1048576):∃ (o:List ByteArray) (b:Bool),o.length<=60/\(∀ k,qJ (M+400) s k=k o b)/\∀ k,uP (M+400) s k=k o b:=by
 have hm:=aU;have rz:s.data.toList.length=s.size:=(Lib.size_eq s).symm;have hll:=acQ s.data.toList [];have hle:(N7 s).length<=s.size+1:=by unfold N7;rw[aY];omega
 by_cases h60:60<(N7 s).length
 ·refine⟨[],false,by simp,λk=>?_,λk=>?_⟩
  ·rw[acR hs];unfold qf;rw[dZ];rfl
  unfold uP;rw[acS hs (by omega),dZ];rfl
 obtain⟨o,h1,h2,h3⟩:=apc hM (N7 s) 0 asX [] (λv hv=>by
  unfold N7 at hv
  obtain⟨l,hl,rfl⟩:=cg.1 hv
  have:=YH _ _ l hl
  rw[tp]
  simp only[ao] at this
  omega) (by decide+kernel) (by simp;omega)
 refine⟨o,true,by rw[h1];simp;omega,λk=>?_,λk=>?_⟩
 ·rw[acR hs];unfold qf HQ;rw[il,ae];dsimp only;rw[P9 (by omega) (by omega)];exact h2 λo=>k o true
 unfold uP;rw[acS hs (by omega),il,ae];unfold HE;dsimp only;rw[O2 (by omega) (by omega)];exact h3 λo=>k o true
end Go.Pv.R
namespace Go.Pv.R
open List Int IntKind
theorem ae4 {K:ByteArray->aa}:∀ (d n x:Nat) (s:ByteArray),x<10^d->x<1000000->d<n->s.size+d<=100->∃ s':ByteArray,s'.size<=100/\∀ K:ByteArray->aa,nz n K (x:Int) s=K s'
 |0,n,x,s,hx,h6,hn,hs=>by obtain⟨n,rfl⟩:∃ j,n=j+1:=⟨n - 1,by omega⟩;refine⟨s,by omega,λK=>?_⟩;unfold nz;have:x=0:=(by simpa using hx);rw[this,il];rfl
 |d+1,n,x,s,hx,h6,hn,hs=>by
  obtain⟨n,rfl⟩:∃ j,n=j+1:=⟨n - 1,by omega⟩;by_cases h0:x=0
  ·refine⟨s,by omega,λK=>?_⟩;unfold nz;rw[h0,il];rfl
  have e1:Int.tmod (x:Int) 10=((x%10:Nat):Int):=(by rw[eh (by omega)];omega);have e2:Int.tdiv (x:Int) 10=((x/10:Nat):Int):=(by rw[oP (by omega)];omega);have e3:=aiS (d:=x%10) (by omega);obtain⟨s',h1,h2⟩:=ae4 (K:=K) d n (x/10) (⟨[UInt8.ofNat (48+x%10)].toArray⟩++s) (by rw[oo] at hx;omega) (by omega) (by omega) (by
   rw[dq]
   have:(ByteArray.mk [UInt8.ofNat (48+x%10)].toArray).size=1:=rfl
   omega)
  refine⟨s',h1,λK=>?_⟩;have hz:(ByteArray.mk [UInt8.ofNat (48+x%10)].toArray).size=1:=rfl;unfold nz;rw[dZ,ab,e1,e2,e3,hz,dZ,ab,iD];exact h2 K
theorem apd {N:Nat} (hN:100<N) (x:Nat) (h:x<1000000):∃ s:ByteArray,∀ K:ByteArray->aa,gQ N (x:Int) K=K s:=by
 by_cases h0:x=0
 ·exact⟨aA8,λK=>by unfold gQ;rw[h0,dZ];rfl⟩
 obtain⟨s,h1,h2⟩:=ae4 (K:=λ_=>none) 6 N x D9 h h (by omega) (by decide);refine⟨s_m++s,λK=>?_⟩;have hz:s_m.size=1:=rfl;unfold gQ;rw[il,ae,h2,hz,dZ];rfl
theorem avQ {N:Nat} {l:List ByteArray} {K:Bool->aa} (hl:l.length<=1000) (hN:l.length<N):s7 N l l K=K true:=by have hm:=aU;unfold s7;rw[eQ,ae,R0 (by omega) hN];refine aq0 (l:=l) (λi x next h e=>?_) l 0 rfl;rw[aL h,aj,aO _ _ h,e,gh];rfl
theorem ajs {α:Type} (y:α):∀ (l:List α) (i:Nat),i<l.length->(l.set i y).take (i+1)=l.take i++[y]
 |[],i,h=>by simp at h
 |a::l,0,h=>by simp
 |a::l,i+1,h=>by have:=ajs y l i (by simpa using h);simp[this]
theorem acT {N L:Nat} {f:Nat->ByteArray} (hf:∀ x,x<1000->∀ K,gQ N ((x+1:Nat):Int) K=K (f x)) {K:List ByteArray->Int->aa} (hL:L<=100):∀ (d i n:Nat) (z:List ByteArray),i+d=L->d<n->z.length=L->z.take i=(List.range i).map f-> mH N n K z ((i+1:Nat):Int) (i:Int)=K ((List.range L).map f) ((L+1:Nat):Int)
 |0,i,n,z,hi,hn,hz,ht=>by obtain⟨n,rfl⟩:∃ j,n=j+1:=⟨n - 1,by omega⟩;obtain rfl:i=L:=(by omega);unfold mH;rw[il,ae,←ht,cw (by omega)]
 |d+1,i,n,z,hi,hn,hz,ht=>by obtain⟨n,rfl⟩:∃ j,n=j+1:=⟨n - 1,by omega⟩;unfold mH;rw[dZ,ab,hf i (by omega)];rw[aL (by omega),ab,aj,iD (n:=((i+1:Nat):Int)+1),iD (n:=(i:Int)+1)];have h:=acT hf (K:=K) hL d (i+1) n (z.set i (f i)) (by omega) (by omega) (by rw[bF];exact hz) (by rw[ajs _ _ _ (by omega),ht,List.range_succ,iL];rfl);exact h
theorem atu {N:Nat} {f:Nat->ByteArray} (hf:∀ x,x<1000->∀ K,gQ N ((x+1:Nat):Int) K=K (f x)) {l:List ByteArray} {K:Int->List ByteArray->aa} (hl:l.length<=100) (hN:l.length<N):s8 N l 1 K=K ((l.length+1:Nat):Int) ((List.range l.length).map f):=by unfold s8;exact acT (K:=λz x=>K x z) hf hl l.length 0 N l (by omega) hN rfl rfl
theorem avR {N L:Nat} {f:Nat->ByteArray} (hf:∀ x,x<1000->∀ K,gQ N ((x+1:Nat):Int) K=K (f x)) {K:Int->aa} (hL:L<=100) (hN:L<N):pR N ((List.range L).map f) 1 K=K ((L+1:Nat):Int):=by
 have hm:=aU;have hlen:((List.range L).map f).length=L:=by simp
 unfold pR;rw[O9 (by omega) (by omega)];have h:=Wm (l:=(List.range L).map f) (dX:=λx=>K x) (g:=λs _=>s+1) (Inv:=λi (s:Int)=>s=((i+1:Nat):Int)) (body:=λ(i:Nat) (x:ByteArray) (aR:Int) (next:Int->aa)=>gQ N aR (λ(Fl:ByteArray)=>bif (!(ByteArray.toList x==ByteArray.toList Fl)) then K (-1:Int) else next (wrap .i64 (aR+(1:Int))))) (λi s next hi hs=>?_) ((List.range L).map f) 0 1 rfl rfl
 ·refine h.trans ?_;refine br K ?_;have key:∀ (l:List ByteArray) (s:Int),l.foldl (λ(s:Int) _=>s+1) s=s+l.length:=λl=>by
   induction l with
   |nil=>intro s;simp
   |cons a l ih=>intro s;simp only[lh,ak];rw[ih];omega
  rw[key,hlen];omega
 subst hs;refine⟨?_,by omega⟩;rw[hlen] at hi;have hx:((List.range L).map f)[i]=f i:=by simp
 rw[hf i (by omega),hx,gh,iD];rfl
theorem Qv (s:ByteArray) (h:wfs [.str] (s,())):∃ N,∀ kf,L3 N s kf=kf true:=by
 obtain⟨M,hM⟩:∃ M:Nat,M=1100000:=⟨_,rfl⟩
 refine⟨M+400,λkf=>?_⟩
 unfold L3
 by_cases hs:s.size<=1048576
 rotate_left
 ·rw[dZ];rfl
 rw[il,ae]
 obtain⟨o,b,hl,hI,hS⟩:=att (M:=M) (by omega) hs
 have ht:∀ x:Nat,∃ t:ByteArray,x<1000->∀ K,gQ (M+400) ((x+1:Nat):Int) K=K t:=λx=>by
  by_cases hx:x<1000
  ·obtain⟨t,ht⟩:=apd (N:=M+400) (by omega) (x+1) (by omega)
   exact⟨t,λ_=>ht⟩
  ·exact⟨D9,λh=>absurd h hx⟩
 obtain⟨f,hf⟩:∃ f:Nat->ByteArray,∀ x,x<1000->∀ K,gQ (M+400) ((x+1:Nat):Int) K=K (f x):=⟨λx=>Classical.choose (ht x),λx=>Classical.choose_spec (ht x)⟩
 have e1:∀ K,s7 (M+400) o o K=K true:=λK=>avQ (by omega) (by omega)
 have e2:∀ K,s8 (M+400) o 1 K=K ((o.length+1:Nat):Int) ((List.range o.length).map f):=λK=>atu hf (by omega) (by omega)
 have e3:∀ K,pR (M+400) ((List.range o.length).map f) 1 K=K ((o.length+1:Nat):Int):=λK=>avR hf (by omega) (by omega)
 have e4:decide (((o.length+1:Nat):Int)<0)=false:=il
 simp only[hI,hS,e1,e2,e3,e4,az,ae,eQ,gh]
end Go.Pv.R
namespace Go.Pv.R
open List Int IntKind
section
variable {M:Nat} {c:bE}
end
end Go.Pv.R
namespace Go.Pv.R
open List Int IntKind
section
variable {M:Nat} {c:bE} {line:ByteArray}
end
end Go.Pv.R
namespace Go.Pv.R
open List Int IntKind
end Go.Pv.R
