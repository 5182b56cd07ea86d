/- The law over the plain functions. -/
import Derived.Test.YteplhdhbdkpgjaaGreatDoorPlLaw0
set_option linter.unusedSimpArgs false
set_option linter.unusedVariables false
noncomputable section
set_option autoImplicit true
set_option relaxedAutoImplicit true
namespace Go.Pv.R
open List Int IntKind
def Pt (t:List bC) (js:List dJ) (p:lI) (used:List Int) (f:List Int->Option az):Nat->Nat->Option az
 |0,_=>none
 |k+1,i=>bif BO used (js.getD i ib).1 then Pt t js p used f k (i+1)else
   bif mG t (js.getD i ib) p then
   (match f (used++[(js.getD i ib).1]) with
    |some r=>some ((js.getD i ib).1::r)
    |none=>Pt t js p used f k (i+1))
  else Pt t js p used f k (i+1)
def NH (t:List bC) (js:List dJ):List lI->List Int->Option az
 |[],_=>some []
 |p::ps,used=>Pt t js p used (NH t js ps) js.length 0
def aAk {α β:Type} (o:Option (List α)) (k0:β) (k:List α->Bool->β):β:=match o with |some r=>k r true |none=>k0
theorem an7 {α β:Type} (o:Option (List α)) (k:List α->Bool->β):aAk o (k [] false) k=Z5 o k:=by cases o<;>rfl
def amo (js:List dJ) (n:Nat) (used r:List Int):Prop:=r.length=n/\r.Nodup/\∀ x∈r,x∈js.map (λx:dJ=>x.1)/\x∉used
theorem Qc (hf:∀ u r,f u=some r->amo js n u r):∀ (k i:Nat) r,i+k=js.length->Pt t js p used f k i=some r->amo js (n+1) used r
 |0,i,r,h,e=>by simp[Pt] at e
 |k+1,i,r,h,e=>by
  unfold Pt at e;cases hu:BO used (js.getD i ib).1 with
  |true=>rw[hu,ab] at e;exact Qc hf k (i+1) r (by omega) e
  |false=>
  rw[hu,ae] at e;cases hm:mG t (js.getD i ib) p with
  |false=>rw[hm,ae] at e;exact Qc hf k (i+1) r (by omega) e
  |true=>
  rw[hm,ab] at e;cases hr:f (used++[(js.getD i ib).1]) with
  |none=>rw[hr] at e;exact Qc hf k (i+1) r (by omega) e
  |some r'=>
  rw[hr] at e;injection e with e;subst e;obtain⟨h1,h2,h3⟩:=hf _ _ hr;have mI:(js.getD i ib).1∈js.map (λx:dJ=>x.1):=(by rw[aI _ _ (show i<js.length by omega)];exact cv.2 ⟨_,aK _,rfl⟩);have hnu:(js.getD i ib).1∉used:=λhc=>(by have:=BP.2 hc;rw[hu] at this;cases this);refine⟨by simp[h1],eJ.2 ⟨λhc=>?_,h2⟩,λx hx=>?_⟩
  ·have:=(h3 _ hc).2;simp at this
  rcases aV.1 hx with rfl |hx
  ·exact⟨mI,hnu⟩
  obtain⟨q1,q2⟩:=h3 x hx;refine⟨q1,λhc=>q2 ?_⟩;simp[hc]
theorem Pu :∀ (ps:List lI) (used r:List Int),NH t js ps used=some r->amo js ps.length used r
 |[],used,r,e=>by unfold NH at e;injection e with e;subst e;exact⟨rfl,gH,λx hx=>by simp at hx⟩
 |p::ps,used,r,e=>Qc (λu r e=>Pu ps u r e) js.length 0 r (by omega) e
theorem Mm:∀ (r L:List Int),r.Nodup->(∀ x∈r,x∈L)->r.length<=L.length
 |[],L,_,_=>by simp
 |x::r,L,hn,h=>by rw[eJ] at hn;have hx:=h x (by simp);have h1:=List.length_erase_of_mem hx;have h2:=List.length_pos_of_mem hx;have:=Mm r (L.erase x) hn.2 λy hy=>(by have xB:y≠x:=λe=>hn.1 (e▸hy);exact(List.mem_erase_of_ne xB).2 (h y (by simp[hy])));simp only[an];omega
theorem ath (h:NH t js ps used=some r):ps.length<=js.length:=by obtain⟨h1,h2,h3⟩:=Pu ps used r h;have:=Mm r (js.map λx:dJ=>x.1) h2 λx hx=>(h3 x hx).1;rw[bh] at this;omega
theorem an8 {p:lI}:(decide ((0:Int)<=1)&&decide (1<=(length (p::ps):Int))&&decide ((length (p::ps):Int)<=(length (p::ps):Int)))=true/\List.drop (toNat 1) (List.take (toNat (length (p::ps):Int)) (p::ps))=ps:=by
 constructor
 ·rw[eZ,af (by simp only[an];omega),eZ];rfl
 rw[aj,kh];rfl
theorem acZ {N:Nat} {self:List bC->List dJ->List lI->List Int->(List Int->Bool->aa)->aa} {t:List bC} {js:List dJ} {p:lI} {ps:List lI} {used:List Int}  (hl:t.length<=maxLen) (hN:t.length<N) (Zq:20<N) (hj:js.length<=1048700) (VQ:∀ x∈js,x.2.2.length<=maxLen/\x.2.2.length<N) (hu:used.length<=1000) (huN:used.length<N) (hs:∀ (x:Int) k,self t js ps (used++[x]) k=Z5 (f (used++[x])) k) (Xy:∀ (u:List Int) r,f u=some r->r.length<=1000):∀ (k i n:Nat),i+k=js.length->k<n-> Kk N self t js (p::ps) used n k0 kf (i:Int)=aAk (Pt t js p used f k i) k0 kf
 |0,i,n+1,h,hn=>by simp only[Kk];rw[fD];rfl
 |k+1,i,n+1,h,hn=>by
  have hx:=aT;have ih:=acZ (k0:=k0) (kf:=kf) (p:=p) hl hN Zq hj VQ hu huN hs Xy k (i+1) n (by omega) (by omega);have ew:wrap .i64 ((i:Int)+1)=((i+1:Nat):Int):=s4 (m:=js.length) (i:=i) (by omega) (by omega);obtain⟨d1,d2⟩:=an8 (p:=p) (ps:=ps);have hi:i<js.length:=(by omega);obtain⟨m1,m2⟩:=VQ js[i] (aK hi);simp only[Kk];rw[eZ,ab,aJ hi,ab,pS (by omega) huN];unfold Pt;have eg:js.getD (toNat (i:Int)) ib=js[i]:=aI _ _ hi _;have eg2:js.getD i ib=js[i]:=aI _ _ hi _;rw[eg,eg2];cases BO used js[i].1 with
  |true=>simp only[ab];rw[ew];exact ih
  |false=>
  simp only[ae];rw[ab,show bj (0:Int) (length (p::ps))=true from aJ (i:=0) (by simp),ab,EC hl hN m1 m2];show(bif !mG t js[i] p then _ else _)=_;cases mG t js[i] p with
  |false=>simp only[bD,ab,ae];rw[ew];exact ih
  |true=>
  simp only[ay,ab,ae];rw[d1,ab,d2,af (by simp;omega),ab,af (by simp;omega),ab,b7,hs,ew];unfold Z5;cases hr:f (used++[js[i].1]) with
  |none=>exact ih
  |some r=>have:=Xy _ _ hr;simp only[ab];rw[af (by simp;omega),ab];rfl
theorem ac0 {N:Nat} {self:List bC->List dJ->List lI->List Int->(List Int->Bool->aa)->aa} {t:List bC} {js:List dJ} {p:lI} {ps:List lI} {used:List Int}  (hl:t.length<=maxLen) (hN:t.length<N) (Zq:20<N) (hj:js.length<=1048700) (VQ:∀ x∈js,x.2.2.length<=maxLen/\x.2.2.length<N) (hu:used.length<=1000) (huN:used.length<N) (hs:∀ (x:Int) k,self t js ps (used++[x]) k=Z5 (f (used++[x])) k) (Xy:∀ (u:List Int) r,f u=some r->r.length<=1000):∀ (k i n:Nat),i+k=js.length->k<n-> Kq N self t js (p::ps) used js (js.length:Int) n k0 kf (i:Int)=aAk (Pt t js p used f k i) k0 kf
 |0,i,n+1,h,hn=>by simp only[Kq];rw[fD];rfl
 |k+1,i,n+1,h,hn=>by
  have hx:=aT;have ih:=ac0 (k0:=k0) (kf:=kf) (p:=p) hl hN Zq hj VQ hu huN hs Xy k (i+1) n (by omega) (by omega);have ew:wrap .i64 ((i:Int)+1)=((i+1:Nat):Int):=s4 (m:=js.length) (i:=i) (by omega) (by omega);obtain⟨d1,d2⟩:=an8 (p:=p) (ps:=ps);have hi:i<js.length:=(by omega);obtain⟨m1,m2⟩:=VQ js[i] (aK hi);simp only[Kq];rw[eZ,ab,aJ hi,ab,pK (by omega) huN];unfold Pt;have eg:js.getD (toNat (i:Int)) ib=js[i]:=aI _ _ hi _;have eg2:js.getD i ib=js[i]:=aI _ _ hi _;rw[eg,eg2];cases BO used js[i].1 with
  |true=>simp only[ab];rw[ew];exact ih
  |false=>
  simp only[ae];rw[show bj (0:Int) (length (p::ps))=true from aJ (i:=0) (by simp),ab,ED hl hN m1 m2 (by omega)];show(bif !mG t js[i] p then _ else _)=_;cases mG t js[i] p with
  |false=>simp only[bD,ab,ae];rw[ew];exact ih
  |true=>
  simp only[ay,ab,ae];rw[d1,ab,d2,aaJ (by omega),af (by simp;omega),ab,hs,ew];unfold Z5;cases hr:f (used++[js[i].1]) with
  |none=>exact ih
  |some r=>have:=Xy _ _ hr;simp only[ab];rw[af (by simp;omega),ab];rfl
theorem an9 {t:List bC} {js:List dJ} (hl:t.length<=maxLen) (hN:t.length<B) (Zq:20<B) (hj:js.length<=1048700) (hjN:js.length<B) (VQ:∀ x∈js,x.2.2.length<=maxLen/\x.2.2.length<B):∀ (ps:List lI) (N:Nat) (used:List Int) (kf:List Int->Bool->aa),used.length+ps.length<=900->used.length+ps.length<B->B+ps.length+1<=N->alG N t js ps used kf=Z5 (NH t js ps used) kf
 |ps,0,used,kf,_,_,h=>by omega
 |[],N+1,used,kf,_,_,_=>rfl
 |p::ps,N+1,used,kf,h1,h2,h=>by
  simp only[an] at h h1 h2;show alF (alG N) N t js (p::ps) used kf=_;unfold alF NH;have e:((length (p::ps):Int)==0)=false:=by simp;omega
  rw[e,ae,←an7];exact acZ (N:=N) (self:=alG N) (f:=NH t js ps) hl (by omega) (by omega) hj (λx hx=>⟨(VQ x hx).1,by have:=(VQ x hx).2;omega⟩) (by omega) (by omega) (λx k=>an9 hl hN Zq hj hjN VQ ps N _ k (by simp;omega) (by simp;omega) (by omega)) (λu r e=>by have:=(Pu ps u r e).1;omega) js.length 0 N (by omega) (by omega)
theorem an' {t:List bC} {js:List dJ} (hl:t.length<=maxLen) (hN:t.length<B) (Zq:20<B) (hj:js.length<=1048700) (hjN:js.length<B) (VQ:∀ x∈js,x.2.2.length<=maxLen/\x.2.2.length<B):∀ (ps:List lI) (N:Nat) (used:List Int) (kf:List Int->Bool->aa),used.length+ps.length<=900->used.length+ps.length<B->B+ps.length+1<=N->al4 N t js ps used kf=Z5 (NH t js ps used) kf
 |ps,0,used,kf,_,_,h=>by omega
 |[],N+1,used,kf,_,_,_=>rfl
 |p::ps,N+1,used,kf,h1,h2,h=>by
  simp only[an] at h h1 h2;show al3 (al4 N) N t js (p::ps) used kf=_;unfold al3 NH;have e:((length (p::ps):Int)==0)=false:=by simp;omega
  rw[e,ae,←an7];exact ac0 (N:=N) (self:=al4 N) (f:=NH t js ps) hl (by omega) (by omega) hj (λx hx=>⟨(VQ x hx).1,by have:=(VQ x hx).2;omega⟩) (by omega) (by omega) (λx k=>an' hl hN Zq hj hjN VQ ps N _ k (by simp;omega) (by simp;omega) (by omega)) (λu r e=>by have:=(Pu ps u r e).1;omega) js.length 0 N (by omega) (by omega)
def BV (t:List bC) (js:List dJ) (ps:List lI):Option az:=bif gM js&&bG t then NH t js ps [] else none
theorem Jo {N:Nat} {t:List bC} {js:List dJ} {ps:List lI} (hl:t.length<=maxLen) (hm:∀ x∈t,x.met.length<=maxLen/\x.met.length+20<N) (hN:t.length+20<N) (h60:60<N) (hj:js.length<=1048700) (hjN:js.length+20<N) (VQ:∀ x∈js,x.2.2.length<=maxLen/\x.2.2.length+20<N) (hp:ps.length<=10):yM N t js ps kf=Z5 (BV t js ps) kf:=by
 have hx:=aT;unfold yM BV;rw[BQ (by omega) (λx hx=>⟨(VQ x hx).1,by have:=(VQ x hx).2;omega⟩) (by omega)];cases gM js with
 |false=>rfl
 |true=>
 simp only[ay,ae,aB];rw[gh hl (λx hx=>⟨(hm x hx).1,by have:=(hm x hx).2;omega⟩) (by omega)];cases bG t with
 |false=>rfl
 |true=>exact an9 (B:=N - 15) hl (by omega) (by omega) hj (by omega) (λx hx=>⟨(VQ x hx).1,by have:=(VQ x hx).2;omega⟩) ps N [] kf (by simp;omega) (by simp;omega) (by omega)
theorem Jp {N:Nat} {t:List bC} {js:List dJ} {ps:List lI} (hl:t.length<=maxLen) (hm:∀ x∈t,x.met.length<=maxLen/\x.met.length+20<N) (hN:t.length+20<N) (h60:60<N) (hj:js.length<=1048700) (hjN:js.length+20<N) (VQ:∀ x∈js,x.2.2.length<=maxLen/\x.2.2.length+20<N) (hp:ps.length<=10):yT N t js ps kf=Z5 (BV t js ps) kf:=by
 have hx:=aT;unfold yT BV;rw[BR (by omega) (λx hx=>⟨(VQ x hx).1,by have:=(VQ x hx).2;omega⟩) (by omega)];cases gM js with
 |false=>rfl
 |true=>
 simp only[ay,ae,aB];rw[hJ hl (λx hx=>⟨(hm x hx).1,by have:=(hm x hx).2;omega⟩) (by omega)];cases bG t with
 |false=>rfl
 |true=>
 simp only[ay,ae,ab];by_cases hgt:ps.length>js.length
 ·rw[eZ,ab];cases hs:NH t js ps [] with
  |none=>rfl
  |some r=>have:=ath hs;omega
 rw[fD,ae];exact an' (B:=N - 15) hl (by omega) (by omega) hj (by omega) (λx hx=>⟨(VQ x hx).1,by have:=(VQ x hx).2;omega⟩) ps N [] kf (by simp;omega) (by simp;omega) (by omega)
def ajO (c:cK) (ps:List lI) (ss:List Int):cK:=(c.1,(c.2.1,(ps,(ss,(List.replicate ps.length (0,(0,0)),c.2.2.2.2.2)))))
def KA (c:cK):Bool:=decide (c.2.2.1.length=0)&&decide (0<c.1.length)
def qa (c:cK):cK×Bool:=match GN c.1 with
 |none=>(c,false)
 |some ps=>match BV c.1 c.2.1 ps with
  |none=>(c,false)
  |some ss=>bif KA c then(xq c (ajO c ps ss) 3 0,tV c (ajO c ps ss) 3 0)else(c,false)
theorem ajP (h:cZ c N) (hp:ps.length<=10) (hs:ss.length<=10) (hN:60<N):cZ (ajO c ps ss) N:=
 ⟨h.tl,h.tm,h.tN,h.jl,h.jm,h.jN,by show ps.length<=_;omega,by show 2*ps.length<_;omega,by show ss.length<=_;omega,by show ss.length<_;omega,by show(List.replicate _ _).length<=_;rw[dO];omega,by show(List.replicate _ _).length<_;rw[dO];omega,h.ml,h.mN,h.n8,h.tb,h.tmb,h.jb,h.jmb⟩
theorem ac1 (h:BV t js ps=some ss):ss.length=ps.length:=by
 unfold BV at h;cases hb:(gM js&&bG t) with
 |false=>rw[hb] at h;simp at h
 |true=>rw[hb,ab] at h;exact(Pu _ _ _ h).1
theorem Yj {c:cK} {kf:cK->Bool->aa} (h:cZ c N) (h':cZ c (N - 40)) (hN:200<N) (hl:c.2.2.2.2.2.1.length+1<N):Fa N c kf=kf (qa c).1 (qa c).2:=by
 have hx:=aT;have t1:=h'.tN;have t2:=h'.jN;have t3:=h'.tm;have t4:=h'.jm;have hj:=h.jb;have htm:∀ x:bC,x∈c.1->x.met.length<=maxLen/\x.met.length+20<N:=λx hx=>⟨(t3 x hx).1,by have:=(t3 x hx).2;omega⟩;have VQ:∀ x∈c.2.1,x.2.2.length<=maxLen/\x.2.2.length+20<N:=λx hx=>⟨(t4 x hx).1,by have:=(t4 x hx).2;omega⟩;have Qi:∀ out nC EG,jt N c out false nC EG kf=kf c false:=λout nC EG=>(ph (out:=out) h (λe=>by cases e) hN hl);unfold Fa qa;rw[dS h,VO h.tl htm (by omega) (by omega)];unfold Z5;cases hr:GN c.1 with
 |none=>simp only[];rw[Jo h.tl htm (by omega) (by omega) hj (by omega) VQ (by simp)];unfold Z5;cases BV c.1 c.2.1 []<;>exact Qi _ _ _
 |some ps=>
 obtain⟨l1,l2⟩:=acY hr;simp only[];rw[Jo h.tl htm (by omega) (by omega) hj (by omega) VQ (by omega)];unfold Z5;have e0:(decide ((length ps:Int)=(length ps:Int))&&decide (0<=(length ps:Int))&&decide ((length ps:Int)<=1099511627776))=true:=by rw[af rfl,eZ,eZ];rfl
 have e0t:(decide True&&decide (0<=(length ps:Int))&&decide ((length ps:Int)<=1099511627776))=true:=by rw[af trivial,eZ,eZ];rfl
 cases hs:BV c.1 c.2.1 ps with
 |none=>
 simp only[];first |rw[e0] |rw[e0t]
 exact Qi _ _ _
 |some ss=>
 have l3:=ac1 hs;have hd:=λok=>ph (out:=ajO c ps ss) (ok:=ok) (nC:=3) (EG:=0) (kf:=kf) h (λ_=>ajP h (by omega) (by omega) (by omega)) hN hl;simp only[];first |rw[e0] |rw[e0t]
 simp only[ab];unfold l4 KA;by_cases iD:c.2.2.1.length=0
 ·rw[ak (show ¬(length c.2.2.1:Int)>0 by omega),af iD];simp only[bD,ab,aB];have e2:decide ((length c.1:Int)>0)=decide (0<c.1.length):=iq.2 (by omega);rw[e2];refine(hd (decide (0<c.1.length))).trans ?_;cases decide (0<c.1.length)<;>rfl
 rw[af (show(length c.2.2.1:Int)>0 by omega),ak iD];exact Qi _ _ _
theorem Yk {c:cK} {kf:cK->Bool->aa} (h:cZ c N) (h':cZ c (N - 40)) (hN:200<N) (hl:c.2.2.2.2.2.1.length+1<N):yd N c kf=kf (qa c).1 (qa c).2:=by
 have hx:=aT;have t1:=h'.tN;have t2:=h'.jN;have t3:=h'.tm;have t4:=h'.jm;have hj:=h.jb;have htm:∀ x:bC,x∈c.1->x.met.length<=maxLen/\x.met.length+20<N:=λx hx=>⟨(t3 x hx).1,by have:=(t3 x hx).2;omega⟩;have VQ:∀ x∈c.2.1,x.2.2.length<=maxLen/\x.2.2.length+20<N:=λx hx=>⟨(t4 x hx).1,by have:=(t4 x hx).2;omega⟩;have Qi:gu c=false->qa c=(c,false):=λhc=>by
  have hd:∀ out nC EG,tV c out nC EG=false:=λout nC EG=>(by unfold tV;rw[hc];simp);have hd2:∀ out nC EG,xq c out nC EG=c:=λout nC EG=>(by unfold xq;rw[hd];rfl);unfold qa;cases GN c.1 with
  |none=>rfl
  |some ps=>
  simp only[];cases BV c.1 c.2.1 ps with
  |none=>rfl
  |some ss=>simp only[hd,hd2];cases KA c<;>rfl
 have aDd:KA c=false->qa c=(c,false):=λhc=>by
  unfold qa;cases GN c.1 with
  |none=>rfl
  |some ps=>
  simp only[];cases BV c.1 c.2.1 ps with
  |none=>rfl
  |some ss=>simp only[hc];rfl
 unfold yd;rw[dm h,tE h];cases hc:gu c with
 |false=>rw[Qi hc];rfl
 |true=>
  unfold iY
  show(bif decide ((length c.2.2.1:Int)>0)then _ else _)=_
  by_cases iD:c.2.2.1.length=0
  rotate_left
  ·rw[af (show(length c.2.2.1:Int)>0 by omega),ab,aDd (by unfold KA;rw[ak iD];rfl)]
  rw[ak (show ¬(length c.2.2.1:Int)>0 by omega),ae]
  by_cases h0:c.1.length=0
  ·have e:((length c.1:Int)==0)=true:=by simp[h0]
   rw[e,ab,aDd (by unfold KA;rw[ak (show ¬ 0<c.1.length by omega)];simp)]
  have e:((length c.1:Int)==0)=false:=by simp;intro q;exact h0 (by simp[q])
  have hmp:KA c=true:=by unfold KA;rw[af iD,af (show 0<c.1.length by omega)];rfl
  rw[e,ae,VP h.tl htm (by omega) (by omega)]
  unfold Z5 qa
  cases hr:GN c.1 with
  |none=>
   simp only[]
   rw[Jp h.tl htm (by omega) (by omega) hj (by omega) VQ (by simp)]
   unfold Z5
   cases BV c.1 c.2.1 []<;>rfl
  |some ps=>
   obtain⟨l1,l2⟩:=acY hr
   simp only[]
   rw[Jp h.tl htm (by omega) (by omega) hj (by omega) VQ (by omega)]
   unfold Z5
   have e0:(decide ((length ps:Int)=(length ps:Int))&&decide (0<=(length ps:Int))&&decide ((length ps:Int)<=1099511627776))=true:=by
    rw[af rfl,eZ,eZ];rfl
   have e0t:(decide True&&decide (0<=(length ps:Int))&&decide ((length ps:Int)<=1099511627776))=true:=by
    rw[af trivial,eZ,eZ];rfl
   cases hs:BV c.1 c.2.1 ps with
   |none=>rfl
   |some ss=>
    have l3:=ac1 hs
    simp only[hmp,ab]
    first |rw[e0] |rw[e0t]
    simp only[ab,ay,ae]
    exact qV (out:=ajO c ps ss) h (ajP h (by omega) (by omega) (by omega)) rfl hN hl
def ofM (b:xK):Int:=bif decide (b.2.1>b.2.2)then 1 else 2
theorem afp (b:xK):ofM b=1∨ofM b=2:=by unfold ofM;cases decide (b.2.1>b.2.2)<;>simp
theorem aef {b:xK}:Ef N b kf=kf (ofM b):=by unfold Ef ofM;cases decide (b.2.1>b.2.2)<;>rfl
theorem ac2 {b:xK}:Ac N b kf=kf (ofM b):=by unfold Ac ofM;cases decide (b.2.1>b.2.2)<;>rfl
theorem Hb {b:xK} (hN:2<N):o6 N [b] kf=kf (iK b):=by have hm:=aT;unfold o6;rw[O8 (by simp;omega) (by simp;omega)];simp only[A4,EE];cases iK b<;>rfl
theorem pv {b:xK} (hN:2<N):qT N [b] kf=kf (iK b):=by have hm:=aT;unfold qT;rw[Pb (by simp;omega) (by simp;omega)];simp only[A4,EF];cases iK b<;>rfl
def afq (b:xK) (k:Int):Int:=bif ofM b==k then 1 else 0
theorem VR (hN:2<N) (hb:iK b=true):x7 N [b] k kf=kf (afq b k):=by have hm:=aT;unfold x7 afq;rw[SM (by simp;omega) (by simp;omega)];simp only[dI,Hb hN,hb,ab,aef];cases ofM b==k<;>rfl
theorem VS (hN:2<N) (hb:iK b=true):ye N [b] k kf=kf (afq b k):=by have hm:=aT;unfold ye afq;rw[pv hN,hb];simp only[ay,ae];rw[SS (by simp;omega) (by simp;omega)];simp only[dI,ac2];cases ofM b==k<;>rfl
theorem NI {N:Nat} {kf:Int->aa} (hN:2<N) (hb:iK b=true):∃ r,∀ kf,wA N [b] k kf=kf r:=by
 have hm:=aT;by_cases h1:k=1
 ·subst h1;refine⟨wrap .i64 (0+b.2.1),λkf=>?_⟩;unfold wA;rw[pv hN,hb];simp only[ay,ae];rw[Ez (by simp;omega) (by simp;omega)];simp only[dI];rfl
 have e1:(k==1)=false:=by simpa using h1
 by_cases h2:k=2
 ·subst h2;refine⟨wrap .i64 (0+b.2.2),λkf=>?_⟩;unfold wA;rw[pv hN,hb];simp only[ay,ae];rw[Ez (by simp;omega) (by simp;omega)];simp only[dI];rfl
 have e2:(k==2)=false:=by simpa using h2
 refine⟨0,λkf=>?_⟩;unfold wA;rw[pv hN,hb];simp only[ay,ae];rw[Ez (by simp;omega) (by simp;omega)];simp only[dI,e1,e2,ae]
theorem VT (hN:2<N) (hb:iK b=true):vd N [b] kf=kf (ofM b):=by unfold vd;have e:((length [b]:Int)==0)=false:=rfl;rw[e,ae,Hb hN,hb];simp only[ay,ae,VR hN hb];unfold afq;rcases afp b with h |h<;>rw[h]<;>rfl
theorem VU {b:xK} (hN:2<N) (hb:iK b=true):ve N [b] kf=kf (ofM b):=by unfold ve;have e:((length [b]:Int)==0)=false:=rfl;obtain⟨r1,h1⟩:=NI (N:=N) (b:=b) (kf:=kf) (k:=1) hN hb;obtain⟨r2,h2⟩:=NI (N:=N) (b:=b) (kf:=kf) (k:=2) hN hb;rw[e,ae,pv hN,hb];simp only[ay,ae,VS hN hb,h1,h2];unfold afq;rcases afp b with h |h<;>rw[h]<;>rfl
def two {α:Type} (t:List α) (i j:Nat) (x y:α):List α:=(t.set i x).set j y
section
variable {α:Type} {t:List α} {i j:Nat} {x y x' y' z:α}
theorem VW:(two t i j x y).length=t.length:=by simp[two]
theorem ajQ (h:i≠j) (hi:i<t.length):(two t i j x y).getD i z=x:=by rw[aF,two,lN (by omega),mW hi];rfl
theorem ajR (hj:j<t.length):(two t i j x y).getD j z=y:=by rw[aF,two,mW (by simpa using hj)];rfl
theorem ajS (h:i≠j):(two t i j x y).set i x'=two t i j x' y:=by unfold two;rw[List.set_comm _ _ (λe=>h e.symm),wW]
theorem ajT:(two t i j x y).set j y'=two t i j x y':=by unfold two;rw[wW]
theorem ajU (h:i≠j):(t.set i x).getD j z=t.getD j z:=by rw[aF,lN (by omega),←aF]
theorem aoa:(t.set i x).set j y=two t i j x y:=by rw[two]
end
def Q4 (t:List bC) (i:Nat) (b d p:Int):bC:=((t.getD i eD).1,((t.getD i eD).2.1,((bif d==1 then wrap .i64 ((t.getD i eD).2.2.1+1)else(t.getD i eD).2.2.1),(wrap .i64 ((t.getD i eD).2.2.2.1+p),(wrap .i64 ((t.getD i eD).2.2.2.2.1+1),(t.getD i eD).2.2.2.2.2++[b])))))
def Hc (t:List bC) (j:Nat) (a d q:Int):bC:=((t.getD j eD).1,((t.getD j eD).2.1,((bif d==1 then(t.getD j eD).2.2.1 else wrap .i64 ((t.getD j eD).2.2.1+1)),(wrap .i64 ((t.getD j eD).2.2.2.1+q),((t.getD j eD).2.2.2.2.1,(t.getD j eD).2.2.2.2.2++[a])))))
def aeg (t:List bC) (a b d p q:Int):List bC:=two t (bM t a).toNat (bM t b).toNat (Q4 t (bM t a).toNat b d p) (Hc t (bM t b).toNat a d q)
def ag7 (t:List bC) (a b d p q:Int):Bool:=bG t&&(decide (bM t a≥0)&&(decide (bM t b≥0)&&((bM t a != bM t b)&&(pE d 1 2&&(pE p 0 1000&&pE q 0 1000)))))
def RM (t:List bC) (a b d p q:Int):Bool:=ag7 t a b d p q&&bG (aeg t a b d p q)
def ag8 (t:List bC) (a b d p q:Int):List bC:=bif RM t a b d p q then aeg t a b d p q else t
theorem Pw (ha:bM t a≥0) (hb:bM t b≥0) (h:∀ x:bC,x∈t->x.met.length+1<N):∀ x:bC,x∈aeg t a b d p q->x.met.length<N:=by
 intro x hx;unfold aeg two at hx;rcases fX hx with hx |rfl
 ·rcases fX hx with hx |rfl
  ·have:=h x hx;omega
  have:=h _ (BU ha).1;show((t.getD (bM t a).toNat eD).2.2.2.2.2++[b]).length<N;rw[au];exact this
 have:=h _ (BU hb).1;show((t.getD (bM t b).toNat eD).2.2.2.2.2++[a]).length<N;rw[au];exact this
theorem VX {N:Nat} {t:List bC} {kf:List bC->Bool->aa} (hl:t.length<=1048700) (hm:∀ x:bC,x∈t->x.met.length<=1048700/\x.met.length+1<N) (hN:t.length<N):tc N t a b d p q kf=kf (ag8 t a b d p q) (RM t a b d p q):=by
 have hx:=aT;have hm1:∀ x∈t,x.met.length<=maxLen/\x.met.length<N:=λx hx=>by have:=hm x hx;omega
 unfold tc ag8 RM ag7;rw[pg hl (λx hx=>(hm x hx).1) hN,gf (by omega) hN,gf (by omega) hN,gh (by omega) hm1 hN];simp only[jy];cases bG t with
 |false=>rfl
 |true=>
  by_cases ha:bM t a≥0
  rotate_left
  ·rw[af (show bM t a<0 by omega),ak ha];rfl
  by_cases hb:bM t b≥0
  rotate_left
  ·rw[ak (show ¬bM t a<0 by omega),af ha,af (show bM t b<0 by omega),ak hb];rfl
  have hT:∀ x:bC,x∈aeg t a b d p q->x.met.length<N:=Pw ha hb λx hx=>(hm x hx).2
  have hT2:∀ x:bC,x∈aeg t a b d p q->x.met.length<1048800:=Pw ha hb λx hx=>by have:=(hm x hx).1;omega
  obtain⟨i,hi,ei,_⟩:=gZ (p:=λx:bC=>x.1==a) (l:=t) (by unfold bM at ha;omega)
  obtain⟨j,hj,ej,_⟩:=gZ (p:=λx:bC=>x.1==b) (l:=t) (by unfold bM at hb;omega)
  have ei:bM t a=(i:Int):=ei
  have ej:bM t b=(j:Int):=ej
  unfold aeg at hT hT2 ⊢
  rw[ei,ej] at hT hT2 ⊢
  simp only[aj] at hT hT2 ⊢
  rw[af (show(i:Int)≥0 by omega),af (show(j:Int)≥0 by omega),ak (show ¬(i:Int)<0 by omega),ak (show ¬(j:Int)<0 by omega)]
  simp only[ay,ae,aB]
  by_cases PM:i=j
  ·subst PM;simp
  have e1:((i:Int)==(j:Int))=false:=by simpa using λe=>PM (by omega)
  have e2:((i:Int) != (j:Int))=true:=by simp only[bne,e1];rfl
  rw[e1,e2]
  cases pE d 1 2 with
  |false=>rfl
  |true=>
  cases pE p 0 1000 with
  |false=>rfl
  |true=>
  cases pE q 0 1000 with
  |false=>rfl
  |true=>
  have li:=(hm _ (aK hi)).1
  have lj:=(hm _ (aK hj)).1
  have gi:t.getD i eD=t[i]:=aI _ _ hi _
  have gj:t.getD j eD=t[j]:=aI _ _ hj _
  have b1:decide ((length (t.getD i eD).2.2.2.2.2+length [b])*1<=4398046511104)=true:=by rw[gi];exact af (by have:t[i].2.2.2.2.2.length<=1048700:=li;simp;omega)
  have b2:decide ((length (t.getD j eD).2.2.2.2.2+length [a])*1<=4398046511104)=true:=by rw[gj];exact af (by have:t[j].2.2.2.2.2.length<=1048700:=lj;simp;omega)
  simp only[ajU PM,br,aJ hi,aJ hj,ab,ae,ay,b1,b2,bV,share,aoa,VW,ajQ PM hi,ajR hj,ajS PM,ajT,aB]
  have hW:(two t i j (Q4 t i b d p) (Hc t j a d q)).length=t.length:=VW
  have key:vM N t kf (two t i j (Q4 t i b d p) (Hc t j a d q))=kf (bif bG (two t i j (Q4 t i b d p) (Hc t j a d q))then two t i j (Q4 t i b d p) (Hc t j a d q)else t) (bG (two t i j (Q4 t i b d p) (Hc t j a d q))):=by
   unfold vM
   rw[gh (by omega) (λx hx=>⟨by have:=hT2 x hx;omega,hT x hx⟩) (by omega)]
   cases bG (two t i j (Q4 t i b d p) (Hc t j a d q)) with
   |false=>simp only[bD,ab,ae];rw[pg hl (λx hx=>(hm x hx).1) hN]
   |true=>rfl
  refine dW ?_ key
  unfold Q4 Hc
  cases d==1<;>rfl
theorem VY {N:Nat} {t:List bC} {kf:List bC->Bool->aa} (hl:t.length<=1048700) (hm:∀ x:bC,x∈t->x.met.length<=1048700/\x.met.length+1<N) (hN:t.length<N):tw N t a b d p q kf=kf (ag8 t a b d p q) (RM t a b d p q):=by
 have hx:=aT;have hm1:∀ x∈t,x.met.length<=maxLen/\x.met.length<N:=λx hx=>by have:=hm x hx;omega
 unfold tw ag8 RM ag7;rw[zC hl (λx hx=>(hm x hx).1) hN,gg (by omega) hN,gg (by omega) hN,hJ (by omega) hm1 hN];simp only[ft];cases bG t with
 |false=>rfl
 |true=>
  by_cases ha:bM t a≥0
  rotate_left
  ·rw[af (show bM t a<0 by omega),ak ha];rfl
  by_cases hb:bM t b≥0
  rotate_left
  ·rw[ak (show ¬bM t a<0 by omega),af ha,af (show bM t b<0 by omega),ak hb];rfl
  have hT:∀ x:bC,x∈aeg t a b d p q->x.met.length<N:=Pw ha hb λx hx=>(hm x hx).2
  have hT2:∀ x:bC,x∈aeg t a b d p q->x.met.length<1048800:=Pw ha hb λx hx=>by have:=(hm x hx).1;omega
  obtain⟨i,hi,ei,_⟩:=gZ (p:=λx:bC=>x.1==a) (l:=t) (by unfold bM at ha;omega)
  obtain⟨j,hj,ej,_⟩:=gZ (p:=λx:bC=>x.1==b) (l:=t) (by unfold bM at hb;omega)
  have ei:bM t a=(i:Int):=ei
  have ej:bM t b=(j:Int):=ej
  unfold aeg at hT hT2 ⊢
  rw[ei,ej] at hT hT2 ⊢
  simp only[aj] at hT hT2 ⊢
  rw[af (show(i:Int)≥0 by omega),af (show(j:Int)≥0 by omega),ak (show ¬(i:Int)<0 by omega),ak (show ¬(j:Int)<0 by omega)]
  simp only[ay,ae,aB]
  by_cases PM:i=j
  ·subst PM;simp
  have e1:((i:Int)==(j:Int))=false:=by simpa using λe=>PM (by omega)
  have e2:((i:Int) != (j:Int))=true:=by simp only[bne,e1];rfl
  rw[e1,e2]
  cases pE d 1 2 with
  |false=>rfl
  |true=>
  cases pE p 0 1000 with
  |false=>rfl
  |true=>
  cases pE q 0 1000 with
  |false=>rfl
  |true=>
  have li:=(hm _ (aK hi)).1
  have lj:=(hm _ (aK hj)).1
  have gi:t.getD i eD=t[i]:=aI _ _ hi _
  have gj:t.getD j eD=t[j]:=aI _ _ hj _
  have b1:decide ((length (t.getD i eD).2.2.2.2.2+length [b])*1<=4398046511104)=true:=by rw[gi];exact af (by have:t[i].2.2.2.2.2.length<=1048700:=li;simp;omega)
  have b2:decide ((length (t.getD j eD).2.2.2.2.2+length [a])*1<=4398046511104)=true:=by rw[gj];exact af (by have:t[j].2.2.2.2.2.length<=1048700:=lj;simp;omega)
  have hnb:Nat.beq i j=false:=by
   cases h:Nat.beq i j with
   |false=>rfl
   |true=>exact absurd (aw h) PM
  have hW:(two t i j (Q4 t i b d p) (Hc t j a d q)).length=t.length:=VW
  have key:(gq N (two t i j (Q4 t i b d p) (Hc t j a d q)) (λ(agH:Bool)=>
       bif !agH then
        o7 N t (λ(agI:bz)=>
         kf agI false)
       else
        kf (two t i j (Q4 t i b d p) (Hc t j a d q)) true))=kf (bif bG (two t i j (Q4 t i b d p) (Hc t j a d q))then two t i j (Q4 t i b d p) (Hc t j a d q)else t) (bG (two t i j (Q4 t i b d p) (Hc t j a d q))):=by
   rw[hJ (by omega) (λx hx=>⟨by have:=hT2 x hx;omega,hT x hx⟩) (by omega)]
   cases bG (two t i j (Q4 t i b d p) (Hc t j a d q)) with
   |false=>simp only[bD,ab,ae];rw[zC hl (λx hx=>(hm x hx).1) hN]
   |true=>rfl
  refine dW ?_ key
  simp only[BD,aj,hnb,bD,dd,ajU PM,br,aJ hi,aJ hj,ab,ae,ay,b1,b2,bV,share,aoa,VW,ajQ PM hi,ajR hj,ajS PM,ajT,aB]
  unfold Q4 Hc
  cases d==1<;>rfl
end Go.Pv.R
namespace Go.Pv
open List Int IntKind
theorem afr {α β:Type} {f:α->β} {p:β->Bool}:∀ (l:List α) (i:Nat),xX p (l.map f) i=xX (λx=>p (f x)) l i
 |[],_=>rfl
 |x::r,i=>by simp only[bq,xX,afr r]
theorem RN {α β:Type} {c:Nat->α->Bool} {f:Nat->α->β}:∀ (l:List α) (i:Nat),(lE c f l i).length=0->∀ (j:Nat) (h:j<l.length),c (i+j) l[j]=false
 |[],i,_,j,h=>by simp at h
 |x::r,i,hl,j,h=>by
  simp only[lE] at hl;cases hc:c i x with
  |true=>rw[hc] at hl;simp at hl
  |false=>
  rw[hc,ae] at hl;cases j with
  |zero=>exact hc
  |succ j=>have:=RN r (i+1) hl j (by simpa using h);rw[show i+(j+1)=i+1+j by omega];exact this
theorem aAl {l:List Nat} {M:Nat} (h:∀ x∈l,x<=M):l.sum<=l.length*M:=by
 induction l with
 |nil=>simp
 |cons x r ih=>have h1:=ih λy hy=>h y (by simp[hy]);have h2:=h x (by simp);simp only[fF,an,Nat.succ_mul];omega
theorem Zt {l:List t.I} {M:Nat} (h:∀ x∈l,aQ t x<=M):aQ (.sl t) l<=l.length+l.length*M:=by
 have:=aAl (l:=l.map (aQ t)) (M:=M) (by
  intro y hy
  obtain⟨x,hx,rfl⟩:=cv.1 hy
  exact h x hx)
 rw[bh] at this;simp only[aQ];omega
end Go.Pv
namespace Go.Pv.R
open List Int IntKind
theorem apx {l m:List dJ} {id:Int} (h:l.map (λx:dJ=>x.1)=m.map λx:dJ=>x.1):ij l id=ij m id:=by unfold ij uV;have e:∀ l:List dJ,xX (λx:dJ=>x.1==id) l 0=xX (λy:Int=>y==id) (l.map λx:dJ=>x.1) 0:=λl=>(afr (f:=λx:dJ=>x.1) (p:=λy:Int=>y==id) l 0).symm;rw[e l,e m,h]
theorem av4 (h:Asc s):po (zT (s++[a,b]))=GL (GL s a) b:=by
 obtain⟨h1,h2⟩:=aea (zT (s++[a,b])) (as4 _);refine anX h1 (Ph (Ph h)) λx=>?_;rw[h2,apo,VE,VE];simp only[bd,aV,List.not_mem_nil,or_false];constructor
 ·rintro(h |h |h)<;>simp[h]
 rintro(h |h |h)<;>simp[h]
theorem ac3 (h:RM t a b d p q=true):bM t a≥0/\bM t b≥0:=by unfold RM ag7 at h;simp only[ai,ax] at h;exact⟨h.1.2.1,h.1.2.2.1⟩
theorem ati :(ag8 t a b d p q).length=t.length:=by
 unfold ag8;cases RM t a b d p q with
 |false=>rfl
 |true=>exact VW
theorem atj {M:Nat} (h:∀ x:bC,x∈t->x.met.length<=M):∀ x:bC,x∈ag8 t a b d p q->x.met.length<=M+1:=by
 intro x hx;unfold ag8 at hx;cases hb:RM t a b d p q with
 |false=>rw[hb,ae] at hx;have:=h x hx;omega
 |true=>rw[hb,ab] at hx;have:=Pw (N:=M+2) (ac3 hb).1 (ac3 hb).2 (λx hx=>by have:=h x hx;omega) x hx;omega
def atk (js:List dJ) (k:Nat) (a b:Int):List dJ:=js.set k ((js.getD k ib).1,((js.getD k ib).2.1,GL (GL (js.getD k ib).2.2 a) b))
theorem atl (hk:k<js.length):(atk js k a b).map (λx:dJ=>x.1)=js.map λx:dJ=>x.1:=by
 unfold atk;rw[oe];apply wg (by simp);intro i h1 h2;rw[List.getElem_set];split
 ·rename_i e;subst e;rw[aI _ _ hk];simp
 rfl
theorem atm {js:List dJ} {M:Nat} (hk:k<js.length) (h:∀ x:dJ,x∈js->Asc x.2.2/\x.2.2.length<=M):∀ x:dJ,x∈atk js k a b->Asc x.2.2/\x.2.2.length<=M+2:=by
 intro x hx;unfold atk at hx;rcases fX hx with hx |rfl
 ·have:=h x hx;exact⟨this.1,by omega⟩
 have:=h (js.getD k ib) (by rw[aI _ _ hk];exact aK hk);have l1:=VF (js.getD k ib).2.2 a;have l2:=VF (GL (js.getD k ib).2.2 a) b;refine⟨Ph (Ph this.1),?_⟩;show(GL (GL (js.getD k ib).2.2 a) b).length<=M+2;omega
def RO (c:cK) (i:Nat):xK:=c.2.2.2.2.1.getD i uJ
def qL (c:cK) (i:Nat):Int:=c.2.2.2.1.getD i 0
def Zu (c:cK) (i:Nat) (x:lI) (s:cK):Bool:=RM s.1 x.1 x.2 (ofM (RO c i)) (RO c i).2.1 (RO c i).2.2
def Td (c:cK) (i:Nat) (x:lI) (s:cK):cK:=(ag8 s.1 x.1 x.2 (ofM (RO c i)) (RO c i).2.1 (RO c i).2.2,(atk s.2.1 (ij s.2.1 (qL c i)).toNat x.1 x.2,s.2.2))
def qu (c:cK):List lI->Nat->cK->Bool->cK×Bool
 |[],_,s,ok=>(s,ok)
 |x::r,i,s,ok=>qu c r (i+1) (Td c i x s) (ok&&Zu c i x s)
structure H9 (c:cK):Prop where
 t10:c.1.length<=10
 tm:∀ x:bC,x∈c.1->x.met.length<=20
 j10:c.2.1.length<=10
 js:∀ x:dJ,x∈c.2.1->Asc x.2.2/\x.2.2.length<=99
 r10:c.2.2.1.length<=10
 sl:c.2.2.2.1.length=c.2.2.1.length
 bl:c.2.2.2.2.1.length=c.2.2.1.length
 sf:∀ i,i<c.2.2.1.length->ij c.2.1 (qL c i)≥0
 bb:∀ i,i<c.2.2.1.length->iK (RO c i)=true
structure pw (c:cK) (i:Nat) (s:cK):Prop where
 tl:s.1.length=c.1.length
 tm:∀ x:bC,x∈s.1->x.met.length<=20+i
 ji:s.2.1.map (λx:dJ=>x.1)=c.2.1.map λx:dJ=>x.1
 js:∀ x:dJ,x∈s.2.1->Asc x.2.2/\x.2.2.length<=99+2*i
 re:s.2.2=c.2.2
theorem pw.aAm (h:pw c i s):s.2.1.length=c.2.1.length:=by have:=bB length h.ji;simpa using this
theorem pw.fjd (h:pw c i s) (id:Int):ij s.2.1 id=ij c.2.1 id:=apx h.ji
theorem Te (hc:H9 c) (hi:i<c.2.2.1.length) (h:pw c i s):pw c (i+1) (Td c i x s):=by have hf:=hc.sf i hi;rw[←h.fjd] at hf;have hk:=(Jf hf).2;exact⟨by rw[←h.tl];exact ati,λy hy=>by have:=atj h.tm y hy;omega,by rw[←h.ji];exact atl hk,λy hy=>by have:=atm hk h.js y hy;exact⟨this.1,by omega⟩,h.re⟩
theorem Tf (hc:H9 c):∀ (r:List lI) (i:Nat) (s:cK) (ok:Bool),i+r.length=c.2.2.1.length->pw c i s->pw c c.2.2.1.length (qu c r i s ok).1
 |[],i,s,ok,h,hs=>by simp at h;subst h;exact hs
 |x::r,i,s,ok,h,hs=>by simp only[an] at h;exact Tf hc r (i+1) _ _ (by omega) (Te hc (by omega) hs)
theorem VZ:∀ (r:List lI) (i:Nat) (s:cK),(qu c r i s false).2=false
 |[],i,s=>rfl
 |x::r,i,s=>by unfold qu;rw[fE];exact VZ r (i+1) _
theorem NJ {N:Nat}  (hb:∀ (i:Nat) (x:lI) (s:cK) (ok:Bool) (next:cK->Bool->aa),i<c.2.2.1.length->pw c i s->body i x s ok next=next (Td c i x s) (ok&&Zu c i x s)) (hc:H9 c):∀ (r:List lI) (i:Nat) (s:cK) (ok:Bool),i+r.length=c.2.2.1.length->pw c i s->alr body k r i s ok=k (qu c r i s ok).1 (qu c r i s ok).2
 |[],i,s,ok,h,hs=>rfl
 |x::r,i,s,ok,h,hs=>by simp only[an] at h;simp only[alr];rw[hb i x s ok _ (by omega) hs];exact NJ (N:=N) hb hc r (i+1) _ _ (by omega) (Te hc (by omega) hs)
theorem NK {N:Nat} {c:cK}  (hb:∀ (i:Nat) (x:lI) (s:cK) (next:cK->aa),i<c.2.2.1.length->pw c i s->body i x s next=bif Zu c i x s then next (Td c i x s)else no) (hc:H9 c):∀ (r:List lI) (i:Nat) (s:cK),i+r.length=c.2.2.1.length->pw c i s->dI body k r i s=bif (qu c r i s true).2 then k (qu c r i s true).1 else no
 |[],i,s,h,hs=>rfl
 |x::r,i,s,h,hs=>by
  simp only[an] at h;simp only[dI];rw[hb i x s _ (by omega) hs];unfold qu;rw[aB];cases Zu c i x s with
  |false=>rw[VZ];rfl
  |true=>exact NK (N:=N) hb hc r (i+1) _ (by omega) (Te hc (by omega) hs)
theorem Z6 {next:cK->Bool->aa} (hc:H9 c) (av5:200<N) (hi:i<c.2.2.1.length) (h:pw c i s): (bif bj (i:Int) (length c.2.2.2.2.1)then vd N [(getD c.2.2.2.2.1 (toNat (i:Int)) uJ)] (λ(ab0:Int)=> tc N s.1 x.1 x.2 ab0 (getD c.2.2.2.2.1 (toNat (i:Int)) uJ).2.1 (getD c.2.2.2.2.1 (toNat (i:Int)) uJ).2.2 (λ(OQ:bz) (MT:Bool)=> bif ok then bif bj (i:Int) (length c.2.2.2.1)then jr N s.2.1 (getD c.2.2.2.1 (toNat (i:Int)) 0) (λ(th:Int)=> bif bj th (length s.2.1)then iV N (getD s.2.1 (toNat th) ib).2.2 x.1 (λ(ab1:az)=> iV N ab1 x.2 (λ(UA:az)=> bif bj th (length s.2.1)then next (OQ,((List.set s.2.1 (toNat th) ((getD s.2.1 (toNat th) ib).1,((getD s.2.1 (toNat th) ib).2.1,UA))),s.2.2)) MT else none))else none)else none else bif bj (i:Int) (length c.2.2.2.1)then jr N s.2.1 (getD c.2.2.2.1 (toNat (i:Int)) 0) (λ(tp:Int)=> bif bj tp (length s.2.1)then iV N (getD s.2.1 (toNat tp) ib).2.2 x.1 (λ(Sy:az)=> iV N Sy x.2 (λ(UB:az)=> bif bj tp (length s.2.1)then next (OQ,((List.set s.2.1 (toNat tp) ((getD s.2.1 (toNat tp) ib).1,((getD s.2.1 (toNat tp) ib).2.1,UB))),s.2.2)) false else none))else none)else none))else none)=next (Td c i x s) (ok&&Zu c i x s):=by
 have hx:=aT;have r10:=hc.r10;have t10:=hc.t10;have j10:=hc.j10;have tl:=h.tl;have jl:=h.aAm;have hf:=hc.sf i hi;rw[←h.fjd] at hf;obtain⟨f1,f2⟩:=Jf hf;have eb:getD c.2.2.2.2.1 (toNat (i:Int)) uJ=RO c i:=rfl;have es:getD c.2.2.2.1 (toNat (i:Int)) 0=qL c i:=rfl;have hj:=h.js (getD s.2.1 (ij s.2.1 (qL c i)).toNat ib) (by rw[aI _ _ f2];exact aK f2);have l1:=VF (getD s.2.1 (ij s.2.1 (qL c i)).toNat ib).2.2 x.1;rw[eb,es,aJ (show i<c.2.2.2.2.1.length by rw[hc.bl];exact hi),aJ (show i<c.2.2.2.1.length by rw[hc.sl];exact hi),ab,VT (by omega) (hc.bb i hi),VX (by omega) (λy hy=>by have:=h.tm y hy;omega) (by omega)];simp only[ab,GH (N:=N) (l:=s.2.1) (id:=qL c i) (by omega) (by omega),f1,Pj (N:=N) (l:=(getD s.2.1 (ij s.2.1 (qL c i)).toNat ib).2.2) (n:=x.1) (by omega) (by omega),Pj (N:=N) (l:=GL (getD s.2.1 (ij s.2.1 (qL c i)).toNat ib).2.2 x.1) (n:=x.2) (by omega) (by omega)];cases ok with
 |true=>rfl
 |false=>rfl
theorem Z7 {next:cK->aa} {kf:cK->Bool->aa} (ho:cZ c N) (hc:H9 c) (av5:200<N) (hi:i<c.2.2.1.length) (h:pw c i s): (bif bj (i:Int) (length c.2.2.2.2.1)then ve N [(getD c.2.2.2.2.1 (toNat (i:Int)) uJ)] (λ(ach:Int)=> tw N s.1 x.1 x.2 ach (getD c.2.2.2.2.1 (toNat (i:Int)) uJ).2.1 (getD c.2.2.2.2.1 (toNat (i:Int)) uJ).2.2 (λ(aci:bz) (acj:Bool)=> bif !acj then bU N c (λ(ack:QC)=> kf ack false)else bif bj (i:Int) (length c.2.2.2.1)then pI N s.2.1 (getD c.2.2.2.1 (toNat (i:Int)) 0) (λ(mo:Int)=> bif bj mo (length s.2.1)then bif (length (getD s.2.1 (toNat mo) ib).2.2+length [x.1,x.2])*1<=4398046511104 then al5 N ((getD s.2.1 (toNat mo) ib).2.2++[x.1,x.2]) (λ(acm:az)=> apm N acm (λ(acn:az)=> bif bj mo (length s.2.1)then bif Nat.beq (toNat mo) (toNat mo)then next (aci,((List.set s.2.1 (toNat mo) ((getD s.2.1 (toNat mo) ib).1,((getD s.2.1 (toNat mo) ib).2.1,acn))),s.2.2))else none else none))else none else none)else none))else none)=bif Zu c i x s then next (Td c i x s)else kf c false:=by have hx:=aT;have r10:=hc.r10;have t10:=hc.t10;have j10:=hc.j10;have tl:=h.tl;have jl:=h.aAm;have hf:=hc.sf i hi;rw[←h.fjd] at hf;obtain⟨f1,f2⟩:=Jf hf;have eb:getD c.2.2.2.2.1 (toNat (i:Int)) uJ=RO c i:=rfl;have es:getD c.2.2.2.1 (toNat (i:Int)) 0=qL c i:=rfl;have hj:=h.js (getD s.2.1 (ij s.2.1 (qL c i)).toNat ib) (by rw[aI _ _ f2];exact aK f2);have ed:decide ((length (getD s.2.1 (ij s.2.1 (qL c i)).toNat ib).2.2+length [x.1,x.2])*1<=4398046511104)=true:=af (by simp only[an,ao];omega);rw[eb,es,aJ (show i<c.2.2.2.2.1.length by rw[hc.bl];exact hi),aJ (show i<c.2.2.2.1.length by rw[hc.sl];exact hi),ab,VU (by omega) (hc.bb i hi),VY (by omega) (λy hy=>by have:=h.tm y hy;omega) (by omega)];simp only[ab,dm ho,GI (N:=N) (l:=s.2.1) (id:=qL c i) (by omega) (by omega),f1,ed,bV];rw[avR (by simp only[au,an,ao];omega),avS,av4 hj.1];show(bif !Zu c i x s then kf c false else next (Td c i x s))=_;cases Zu c i x s<;>rfl
theorem ajV (h:ajt s=true):Asc s/\s.length<=99:=by
 unfold ajt at h;rw[uN] at h;have step:∀ (i:Nat) (hi:i<s.length),(1<=s[i]/\s[i]<=99)/\(0<i->s.getD (i - 1) 0<s[i]):=λi hi=>by have:=h i hi;rw[aW] at this;simp only[ai,bo,ax,qD] at this;exact⟨this.1,λh0=>by omega⟩
 have mono:∀ (i:Nat) (hi:i<s.length) (j:Nat) (hj:j<i),s[j]'(by omega)<s[i]:=by
  intro i;induction i with
  |zero=>intro hi j hj;omega
  |succ i ih=>
  intro hi j hj;have h1:=(step (i+1) hi).2 (by omega);rw[pF,aI _ _ (show i<s.length by omega)] at h1;rcases wH (wG hj) with h2 |rfl
  ·have:=ih (by omega) j h2;omega
  exact h1
 have ha:Asc s:=gE.2 λj i hj hi HE=>mono i hi j HE;refine⟨ha,?_⟩;have hn:s.Nodup:=ha.imp λh=>by omega
 have:=Mm s ((List.range 100).map λn:Nat=>(n:Int)) hn λx hx=>by obtain⟨i,hi,rfl⟩:=bL.1 hx;have:=(step i hi).1;exact cv.2 ⟨s[i].toNat,by rw[List.mem_range];omega,by omega⟩
 have h0:0∉s:=λhc=>by obtain⟨i,hi,e⟩:=bL.1 hc;have:=(step i hi).1;omega
 have:=Mm (0::s) ((List.range 100).map λn:Nat=>(n:Int)) (eJ.2 ⟨h0,hn⟩) λx hx=>by
  rcases aV.1 hx with rfl |hx
  ·exact cv.2 ⟨0,by simp,rfl⟩
  obtain⟨i,hi,rfl⟩:=bL.1 hx;have:=(step i hi).1;exact cv.2 ⟨s[i].toNat,by rw[List.mem_range];omega,by omega⟩
 simp only[an,bh,List.length_range] at this;omega
theorem aob (hc:gu c=true) (hr:c.2.2.1.length≠0) (hw:(dG c).length=0):H9 c:=by
 obtain⟨l1,l2⟩:=Kv hc;unfold gu at hc;simp only[ai,bo,ax] at hc;obtain⟨ht,hj,_,_,_,hs,hb,_⟩:=hc;have hs:BS c.1 c.2.2.1=true/\qt c.1 c.2.1 c.2.2.1 c.2.2.2.1=true:=hs.resolve_left hr;obtain⟨_,hs⟩:=hs;unfold qt at hs;simp only[ai,ax] at hs;obtain⟨_,_,hs⟩:=hs;rw[uN] at hs;unfold bG at ht;simp only[ai,ax] at ht;obtain⟨t10,htp,_⟩:=ht;unfold gM at hj;simp only[ai,ax] at hj;obtain⟨j10,hjp⟩:=hj;rw[uN] at htp hjp hb;have sP:∀ i,i<c.2.2.1.length->ij c.2.1 (qL c i)≥0/\BO (c.2.2.2.1.take i) (qL c i)=false:=λi hi=>by have:=hs i hi;rw[aW] at this;unfold Pf at this;simp only[ai,ax,b8] at this;exact⟨this.1,this.2.1⟩
 have hn:c.2.2.2.1.Nodup:=gE.2 λi j hi hj PM e=>by have h1:=(sP j (by omega)).2;have h2:BO (c.2.2.2.1.take j) (qL c j)=true:=(by rw[BP];unfold qL;rw[aI _ _ hj,←e];exact bL.2 ⟨i,by rw[aH];omega,by rw[gJ]⟩);rw[h1] at h2;cases h2
 have hle:=Mm c.2.2.2.1 (c.2.1.map λx:dJ=>x.1) hn λx hx=>by obtain⟨i,hi,rfl⟩:=bL.1 hx;have h1:=(sP i (by omega)).1;unfold qL at h1;rw[aI _ _ hi] at h1;obtain⟨k,hk,e,h2,_⟩:=gZ (p:=λx:dJ=>x.1==c.2.2.2.1[i]) (l:=c.2.1) (by unfold ij at h1;omega);exact cv.2 ⟨c.2.1[k],aK hk,by simpa using h2⟩
 rw[bh] at hle;refine⟨t10,λx hx=>?_,j10,λx hx=>?_,by omega,l1,l2,λi hi=>(sP i hi).1,λi hi=>?_⟩
 ·obtain⟨i,hi,rfl⟩:=bL.1 hx;have:=htp i hi;unfold Dd at this;simp only[ai,ax] at this;exact this.2.2.2.2.2.1
 ·obtain⟨i,hi,rfl⟩:=bL.1 hx;have:=hjp i hi;unfold K8 at this;simp only[ai,ax] at this;exact ajV this.2.2.2
 have AY:i<c.2.2.2.2.1.length:=by omega
 have h1:=RN c.2.2.2.2.1 0 hw i AY;have h2:=hb i AY;rw[aW] at h2;unfold Fl at h2;simp only[h1,eV,ai] at h2;unfold RO;rw[aI _ _ AY];exact h2.1
def amp (c s:cK):cK:=(s.1,(s.2.1,([],([],([],(s.2.2.2.2.2.1,wrap .i64 (c.2.2.2.2.2.2+(length c.2.2.1:Int))))))))
def ac4 (c:cK):Bool:=gu c&&(decide (c.2.2.1.length≠0)&&decide ((dG c).length=0))
def zF (c:cK):cK×Bool:=bif ac4 c&&(qu c c.2.2.1 0 c true).2 then(xq c (amp c (qu c c.2.2.1 0 c true).1) 5 0,tV c (amp c (qu c c.2.2.1 0 c true).1) 5 0)else(c,false)
theorem Qd (hc:H9 c):pw c 0 c:=⟨rfl,λx hx=>by have:=hc.tm x hx;omega,rfl,λx hx=>by have:=hc.js x hx;exact⟨this.1,by omega⟩,rfl⟩
theorem aoc (h:cZ c N) (hc:H9 c) (hs:pw c c.2.2.1.length s) (hN:200<N):cZ (amp c s) N:=by
 have hx:=aT;have r10:=hc.r10;have t10:=hc.t10;have j10:=hc.j10;have tl:=hs.tl;have jl:=hs.aAm;have ht:∀ x:bC,x∈s.1->x.met.length<=40:=λx hx=>by have:=hs.tm x hx;omega
 have hj:∀ x:dJ,x∈s.2.1->x.2.2.length<=140:=λx hx=>by have:=(hs.js x hx).2;omega
 have hre:s.2.2.2.2.2.1=c.2.2.2.2.2.1:=by rw[hs.re]
 exact⟨by show s.1.length<=_;omega,λx hx=>⟨by have:=ht x hx;omega,by have:=ht x hx;omega⟩,by show s.1.length<_;omega,by show s.2.1.length<=_;omega,λx hx=>⟨by have:=hj x hx;omega,by have:=hj x hx;omega⟩,by show s.2.1.length<_;omega,by show 0<=_;omega,by show 2*0<_;omega,by show 0<=_;omega,by show 0<_;omega,by show 0<=_;omega,by show 0<_;omega,by show s.2.2.2.2.2.1.length<=_;rw[hre];exact h.ml,by show s.2.2.2.2.2.1.length<_;rw[hre];exact h.mN,h.n8,by show s.1.length<=_;omega,λx hx=>by have:=ht x hx;omega,by show s.2.1.length<=_;omega,λx hx=>by have:=hj x hx;omega⟩
theorem aaN (n:Nat):decide ((n:Int)>0)=!decide (n=0):=by
 by_cases h:n=0
 ·rw[fD,af h];rfl
 rw[eZ,ak h];rfl
theorem V0 {kf:cK->Bool->aa} (h:cZ c N) (hN:200<N) (hl:c.2.2.2.2.2.1.length+1<N):Bm N c kf=kf (zF c).1 (zF c).2:=by
 have hx:=aT;have hr:=h.rl;have hr2:=h.rN;unfold Bm zF ac4;rw[dS h,wJ h];cases hc:gu c with
 |false=>rfl
 |true=>
 simp only[ay,ae,aB];unfold l4;rw[aaN];by_cases iD:c.2.2.1.length=0
 ·rw[af iD,ak (λe=>e iD)];rfl
 ·rw[ak iD,af iD]
  simp only[ay,bD,ae,aB]
  rw[yW h,aaN]
  by_cases hw:(dG c).length=0
  rotate_left
  ·rw[ak hw];rfl
  ·rw[af hw]
   have ho:=aob hc iD hw
   have hi:=Tf ho c.2.2.1 0 c true (by omega) (Qd ho)
   simp only[ay,ae,aB]
   rw[Qx (by omega) (by omega),NJ (N:=N) (c:=c) (λi x s ok next hi hs=>Z6 ho hN hi hs) ho c.2.2.1 0 c true (by omega) (Qd ho)]
   refine(ph (out:=amp c (qu c c.2.2.1 0 c true).1) h (λ_=>aoc h ho hi hN) hN hl).trans ?_
   cases (qu c c.2.2.1 0 c true).2<;>rfl
theorem V1 {c:cK} {kf:cK->Bool->aa} (h:cZ c N) (hN:200<N) (hl:c.2.2.2.2.2.1.length+1<N):wC N c kf=kf (zF c).1 (zF c).2:=by
 have hx:=aT;have hr:=h.rl;have hr2:=h.rN;unfold wC zF ac4;rw[dm h,tE h];cases hc:gu c with
 |false=>rfl
 |true=>
 simp only[ay,ae,aB];unfold iY;rw[aaN];by_cases iD:c.2.2.1.length=0
 ·rw[af iD,ak (λe=>e iD)];rfl
 ·rw[ak iD,af iD]
  simp only[ay,bD,ae,aB]
  rw[yX h,aaN]
  by_cases hw:(dG c).length=0
  rotate_left
  ·rw[ak hw]
   rfl
  ·rw[af hw]
   have ho:=aob hc iD hw
   have hi:=Tf ho c.2.2.1 0 c true (by omega) (Qd ho)
   simp only[ay,ae,aB]
   rw[dm h,QM (by omega) (by omega),NK (N:=N) (c:=c) (no:=kf c false) (λi x s next hi hs=>Z7 h ho hN hi hs) ho c.2.2.1 0 c (by omega) (Qd ho)]
   cases AI:(qu c c.2.2.1 0 c true).2 with
   |false=>rfl
   |true=>
    have hre:(qu c c.2.2.1 0 c true).1.2.2=c.2.2:=hi.re
    have e2:((qu c c.2.2.1 0 c true).1.1,((qu c c.2.2.1 0 c true).1.2.1,(([]:List KW),(([]:List Int),(([]:List QB),((qu c c.2.2.1 0 c true).1.2.2.2.2.2.1,(wrap .i64 ((qu c c.2.2.1 0 c true).1.2.2.2.2.2.2+(length c.2.2.1:Int)))))))))=amp c (qu c c.2.2.1 0 c true).1:=by
     unfold amp
     rw[hre]
    simp only[ab]
    rw[e2]
    exact qV (out:=amp c (qu c c.2.2.1 0 c true).1) h (aoc h ho hi hN) (by show(qu c c.2.2.1 0 c true).1.2.2.2.2.2.1=_;rw[hre]) hN hl
structure Small (c:cK):Prop where
 t10:c.1.length<=10
 tm:∀ x:bC,x∈c.1->x.met.length<=20
 j10:c.2.1.length<=10
 js:∀ x:dJ,x∈c.2.1->x.2.2.length<=99
 r10:c.2.2.1.length<=10
 s10:c.2.2.2.1.length<=10
 b10:c.2.2.2.2.1.length<=10
 aAn:c.2.2.2.2.2.1.length<=200
theorem ajW (hc:gu c=true):Small c:=by
 obtain⟨l1,l2⟩:=Kv hc;unfold gu at hc;simp only[ai,bo,ax] at hc;obtain⟨ht,hj,hm,_,_,hs,hb,_⟩:=hc;unfold uB at hm;simp only[ai,ax] at hm;unfold bG at ht;simp only[ai,ax] at ht;obtain⟨t10,htp,_⟩:=ht;unfold gM at hj;simp only[ai,ax] at hj;obtain⟨j10,hjp⟩:=hj;rw[uN] at htp hjp;have r10:c.2.2.1.length<=10:=by
  rcases hs with hs |hs
  ·omega
  have hs:qt c.1 c.2.1 c.2.2.1 c.2.2.2.1=true:=hs.2;unfold qt at hs;simp only[ai,ax] at hs;obtain⟨_,_,hs⟩:=hs;rw[uN] at hs;have sP:∀ i,i<c.2.2.1.length->ij c.2.1 (qL c i)≥0/\BO (c.2.2.2.1.take i) (qL c i)=false:=λi hi=>(by have:=hs i hi;rw[aW] at this;unfold Pf at this;simp only[ai,ax,b8] at this;exact⟨this.1,this.2.1⟩);have hn:c.2.2.2.1.Nodup:=gE.2 λi j hi hj PM e=>(by have h1:=(sP j (by omega)).2;have h2:BO (c.2.2.2.1.take j) (qL c j)=true:=(by rw[BP];unfold qL;rw[aI _ _ hj,←e];exact bL.2 ⟨i,by rw[aH];omega,by rw[gJ]⟩);rw[h1] at h2;cases h2);have hle:=Mm c.2.2.2.1 (c.2.1.map λx:dJ=>x.1) hn λx hx=>(by obtain⟨i,hi,rfl⟩:=bL.1 hx;have h1:=(sP i (by omega)).1;unfold qL at h1;rw[aI _ _ hi] at h1;obtain⟨k,hk,e,h2,_⟩:=gZ (p:=λx:dJ=>x.1==c.2.2.2.1[i]) (l:=c.2.1) (by unfold ij at h1;omega);exact cv.2 ⟨c.2.1[k],aK hk,by simpa using h2⟩);rw[bh] at hle;omega
 refine⟨t10,λx hx=>?_,j10,λx hx=>?_,r10,by omega,by omega,hm.1⟩
 ·obtain⟨i,hi,rfl⟩:=bL.1 hx;have:=htp i hi;unfold Dd at this;simp only[ai,ax] at this;exact this.2.2.2.2.2.1
 obtain⟨i,hi,rfl⟩:=bL.1 hx;have:=hjp i hi;unfold K8 at this;simp only[ai,ax] at this;exact(ajV this.2.2.2).2
theorem Small.okC (h:Small c) (hN:300<N):cZ c N:=by have hx:=aT;obtain⟨h1,h2,h3,h4,h5,h6,h7,h8⟩:=h;exact⟨by omega,λx hx=>by have:=h2 x hx;omega,by omega,by omega,λx hx=>by have:=h4 x hx;omega,by omega,by omega,by omega,by omega,by omega,by omega,by omega,by omega,by omega,by omega,by omega,λx hx=>by have:=h2 x hx;omega,by omega,λx hx=>by have:=h4 x hx;omega⟩
theorem Small.szC (h:Small c):aQ pG c<=2000:=by
 have h1:=M7 c;have t10:=h.t10;have j10:=h.j10;have r10:=h.r10;have s10:=h.s10;have b10:=h.b10;have aAn:=h.aAn;have b1:=Zt (t:=lG) (l:=c.1) (M:=20) (λx hx=>by
  have h2:aQ lG x=aQ (.sl (.int .i64)) x.2.2.2.2.2:=by simp[aQ]
  have h3:aQ (.sl (.int .i64)) x.2.2.2.2.2=(x.2.2.2.2.2).length:=xW (t:=.int .i64) (by decide) _
  have:x.2.2.2.2.2.length<=20:=h.tm x hx
  omega)
 have b2:=Zt (t:=n5) (l:=c.2.1) (M:=99) (λx hx=>by
  have h2:aQ n5 x=aQ (.sl (.int .i64)) x.2.2:=by simp[aQ]
  have h3:aQ (.sl (.int .i64)) x.2.2=(x.2.2).length:=xW (t:=.int .i64) (by decide) _
  have:=h.js x hx
  omega)
 have m1:c.1.length*20<=10*20:=aD _ (by omega);have m2:c.2.1.length*99<=10*99:=aD _ (by omega);have e3:aQ (.sl dt) c.2.2.1=c.2.2.1.length:=xW (t:=dt) (by decide) _;have e4:aQ (.sl (.int .i64)) c.2.2.2.1=c.2.2.2.1.length:=xW (t:=.int .i64) (by decide) _;have e5:aQ (.sl vo) c.2.2.2.2.1=c.2.2.2.2.1.length:=xW (t:=vo) (by decide) _;have e6:aQ (.sl tM) c.2.2.2.2.2.1=c.2.2.2.2.2.1.length:=xW (t:=tM) (by decide) _;omega
structure Z8 (c:cK) (N:Nat):Prop where
 ok:cZ c N
 ok':cZ c (N - 40)
 tb:c.1.length<=1048576
 tN:c.1.length+1<N
 jb:c.2.1.length<=1048576
 jN:c.2.1.length+1<N
 mN:c.2.2.2.2.2.1.length+1<N
 N2:200<N
theorem Small.evC (h:Small c) (hN:400<N):Z8 c N:=
 ⟨h.okC (by omega),h.okC (by omega),by have:=h.t10;omega,by have:=h.t10;omega,by have:=h.j10;omega,by have:=h.j10;omega,by have:=h.aAn;omega,by omega⟩
def onB (b:Bool) (c:cK) (r:cK×Bool):cK×Bool:=bif b then r else(c,false)
def NL (c out:cK) (nC EG:Int):cK×Bool:=(xq c out nC EG,tV c out nC EG)
def nZ (c:cK) (e:QL):cK×Bool:=bif e.1==1 then onB (decide (c.2.2.1.length=0)) c (NL c (Kw c e.2.1 e.2.2.1) 1 e.2.1)else bif e.1==2 then NL c (EJ c e.2.1 e.2.2.1) 2 e.2.1 else bif e.1==3 then qa c else bif e.1==4 then onB (VC c e.2.2.2 e.2.1 e.2.2.1) c (NL c (RH c e.2.2.2 e.2.1 e.2.2.1) 4 (Pg c e.2.2.2 e.2.1 e.2.2.1).1)else bif e.1==5 then zF c else bif e.1==6 then onB (Pl c e.2.1) c (NL c (M9 c e.2.1) 6 e.2.1)else(c,false)
theorem afs {k:cK->Bool->aa}:(bif b then k r.1 r.2 else k c false)=k (onB b c r).1 (onB b c r).2:=by unfold onB;cases b<;>rfl
theorem Tg {N:Nat} {kf:cK->Bool->aa} (h:Z8 c N):uP N c e kf=kf (nZ c e).1 (nZ c e).2:=by
 unfold uP nZ
 cases e.1==1
 rotate_left
 ·exact(Yb h.ok h.tb h.tN h.N2 h.mN).trans (afs (c:=c) (r:=NL c (Kw c e.2.1 e.2.2.1) 1 e.2.1) (k:=kf))
 cases e.1==2
 rotate_left
 ·exact VJ h.ok h.jb h.jN h.N2 h.mN
 cases e.1==3
 rotate_left
 ·exact Yj h.ok h.ok' h.N2 h.mN
 cases e.1==4
 rotate_left
 ·exact(SZ h.ok h.N2 h.mN).trans (afs (c:=c) (r:=NL c (RH c e.2.2.2 e.2.1 e.2.2.1) 4 (Pg c e.2.2.2 e.2.1 e.2.2.1).1) (k:=kf))
 cases e.1==5
 rotate_left
 ·exact V0 h.ok h.N2 h.mN
 cases e.1==6
 rotate_left
 ·exact(VH h.ok h.N2 h.mN).trans (afs (c:=c) (r:=NL c (M9 c e.2.1) 6 e.2.1) (k:=kf))
 ·simp only[ae]
  rw[dS h.ok]
def Kept (c:cK) (r:cK×Bool):Prop:=(r.1=c/\r.2=false)∨(gu r.1=true/\r.2=true)
theorem EL (c out:cK) (nC EG:Int):Kept c (NL c out nC EG):=by
 unfold NL Kept xq;cases hd:tV c out nC EG with
 |false=>exact .inl ⟨rfl,rfl⟩
 |true=>unfold tV at hd;simp only[ai] at hd;exact .inr ⟨hd.2.2,rfl⟩
theorem Px (h:Kept c r):Kept c (onB b c r):=by
 unfold onB;cases b with
 |false=>exact .inl ⟨rfl,rfl⟩
 |true=>exact h
theorem ajX (c:cK) (e:QL):Kept c (nZ c e):=by
 unfold nZ
 cases e.1==1
 rotate_left
 ·exact Px (EL _ _ _ _)
 cases e.1==2
 rotate_left
 ·exact EL _ _ _ _
 cases e.1==3
 rotate_left
 ·show Kept c (qa c)
  unfold qa
  cases GN c.1 with
  |none=>exact .inl ⟨rfl,rfl⟩
  |some ps=>
   simp only[]
   cases BV c.1 c.2.1 ps with
   |none=>exact .inl ⟨rfl,rfl⟩
   |some ss=>exact Px (EL _ _ _ _)
 cases e.1==4
 rotate_left
 ·exact Px (EL _ _ _ _)
 cases e.1==5
 rotate_left
 ·exact Px (EL _ _ _ _)
 cases e.1==6
 rotate_left
 ·exact Px (EL _ _ _ _)
 ·exact .inl ⟨rfl,rfl⟩
theorem av6 {c:cK} (hw:wf pG c) (hb:aQ pG c<=1048576) (hN:2*aQ pG c+300<N):Z8 c N:=by have hml:=M7 c;have h1:=cC (t:=tM) c.2.2.2.2.2.1;have h2:=cC (t:=lG) c.1;have h3:=cC (t:=n5) c.2.1;exact⟨anV hw hb (by omega),anV hw hb (by omega),by omega,by omega,by omega,by omega,by omega,by omega⟩
def isStep (x:Int) (d:Nat):Option Nat:=bif pE x 0 5 then some (d+1)else bif (x== -1)&&decide (1<=d)then some d else bif pE x (-4) (-2)&&decide (2<=d)then some (d - 1)else none
def isG:List Int->Nat->Option Nat
 |[],d=>some d
 |x::r,d=>match isStep x d with
  |some d'=>isG r d'
  |none=>none
def FK (r:List Int):Bool:=decide (r.length<=24)&&(isG r 0==some 1)
theorem Jq (h:isStep x d=some d'):1<=d'/\d'<=d+1:=by
 unfold isStep at h;cases h1:pE x 0 5 with
 |true=>rw[h1,ab] at h;injection h with h;omega
 |false=>
 rw[h1,ae] at h;cases h2:(x== -1)&&decide (1<=d) with
 |true=>rw[h2,ab] at h;injection h with h;simp only[ai,ax] at h2;omega
 |false=>
 rw[h2,ae] at h;cases h3:pE x (-4) (-2)&&decide (2<=d) with
 |true=>rw[h3,ab] at h;injection h with h;simp only[ai,ax] at h3;omega
 |false=>rw[h3] at h;cases h
theorem aod:∀ {r:List Int} {d d':Nat},isG r d=some d'->1<=d->1<=d'
 |[],d,d',h,h1=>by injection h with h;omega
 |x::r,d,d',h,h1=>by
  simp only[isG] at h;cases hs:isStep x d with
  |none=>rw[hs] at h;cases h
  |some e=>rw[hs] at h;exact aod h (Jq hs).1
theorem Jr (h:FK r=true):1<=r.length/\r.length<=24:=by
 unfold FK at h;simp only[ai,ax] at h;cases r with
 |nil=>have:=h.2;simp[isG] at this
 |cons x r=>simp only[an] at h ⊢;omega
theorem ajY {σ:Type} {body:Nat->Int->σ->(σ->aa)->aa} {du:σ->aa} {dep:σ->Nat} (hb:∀ (i:Nat) (x:Int) (s:σ),dep s<=B->(isStep x (dep s)=none->∀ next,body i x s next=no)/\∀ d',isStep x (dep s)=some d'->∃ s',dep s'=d'/\∀ next,body i x s next=next s'):∀ (r:List Int) (i:Nat) (s:σ),dep s+r.length<=B+1->(isG r (dep s)=none->dI body du r i s=no)/\∀ d',isG r (dep s)=some d'->∃ s',dep s'=d'/\dI body du r i s=du s'
 |[],i,s,_=>⟨λh=>(by cases h),λd' h=>by injection h with h;exact⟨s,h,rfl⟩⟩
 |x::r,i,s,hB=>by
  simp only[an] at hB;obtain⟨h1,h2⟩:=hb i x s (by omega);simp only[isG,dI];cases hs:isStep x (dep s) with
  |none=>exact⟨λ_=>h1 hs _,λd' h=>by cases h⟩
  |some d'=>obtain⟨s',e1,e2⟩:=h2 d' hs;have hp:=Jq hs;have:=ajY (du:=du) hb r (i+1) s' (by omega);rw[e1] at this;rw[e2];exact this
theorem apy {σ:Type} {body:Nat->Int->σ->(σ->aa)->aa} {du:σ->aa} (dep:σ->Nat) (B:Nat) (hb:∀ (i:Nat) (x:Int) (s:σ),dep s<=B->(isStep x (dep s)=none->∀ next,body i x s next=no)/\∀ d',isStep x (dep s)=some d'->∃ s',dep s'=d'/\∀ next,body i x s next=next s') (r:List Int) (i:Nat) (s:σ) (hB:dep s+r.length<=B+1) (h1:isG r (dep s)=none->no=Q) (h2:∀ d' s',isG r (dep s)=some d'->dep s'=d'->du s'=Q):dI body du r i s=Q:=by
 obtain⟨k1,k2⟩:=ajY (du:=du) hb r i s hB;cases hg:isG r (dep s) with
 |none=>rw[k1 hg];exact h1 hg
 |some d'=>obtain⟨s',e1,e2⟩:=k2 d' hg;rw[e2];exact h2 d' s' hg e1
theorem BW (hl:r.length<=1048576) (hN:r.length<N):wm N r kf=kf (FK r):=by
 have hx:=aT;unfold wm;rw[Qr (by omega) hN];have key:∀ (body:Nat->Int->Int->(Int->aa)->aa) (du:Int->aa),(∀ (i:Nat) (x:Int) (d:Nat),d<=1048580->(isStep x d=none->∀ next,body i x (d:Int) next=kf false)/\∀ d',isStep x d=some d'->∀ next,body i x (d:Int) next=next (d':Int))->∀ (r:List Int) (i d:Nat),d+r.length<=1048580->dI body du r i (d:Int)=match isG r d with |some d'=>du (d':Int) |none=>kf false:=by
  intro body du hb r;induction r with
  |nil=>intro i d _;rfl
  |cons x r ih=>
  intro i d hd;simp only[an] at hd;obtain⟨h1,h2⟩:=hb i x d (by omega);simp only[isG,dI];cases hs:isStep x d with
  |none=>exact h1 hs _
  |some d'=>have hp:=Jq hs;rw[h2 d' hs];exact ih (i+1) d' (by omega)
 refine(key _ _ (λi x d hd=>?_) r 0 0 (by omega)).trans ?_
 ·simp only[jy];have w1:wrap .i64 ((d:Int)+1)=((d+1:Nat):Int):=iT;have w2:∀ h:2<=d,wrap .i64 ((d:Int) - 1)=((d - 1:Nat):Int):=λh=>by rw[iT];omega
  have c1:decide ((d:Int)≥1)=decide (1<=d):=iq.2 (by omega);have c2:decide ((d:Int)≥2)=decide (2<=d):=iq.2 (by omega);rw[w1,c1,c2];unfold isStep;cases pE x 0 5 with
  |true=>exact⟨λh=>(by cases h),λd' h next=>by injection h with h;subst h;rfl⟩
  |false=>
  simp only[ae];by_cases h2:2<=d
  ·rw[w2 h2,af h2,af (show 1<=d by omega)];cases x== -1<;>cases pE x (-4) (-2)<;>exact⟨λh=>(by first |exact λ_=>rfl |cases h),λd' h next=>by first |(injection h with h;subst h;rfl) |cases h⟩
  rw[ak h2];cases decide (1<=d)<;>cases x== -1<;>cases pE x (-4) (-2)<;>exact⟨λh=>(by first |exact λ_=>rfl |cases h),λd' h next=>by first |(injection h with h;subst h;rfl) |cases h⟩
 unfold FK;cases hg:isG r 0 with
 |none=>simp
 |some d'=>
 simp only[];by_cases h1:d'=1
 ·subst h1;have:(((1:Nat):Int)==1)=true:=rfl;rw[this,ab];congr 1;rw[show decide ((r.length:Int)<=24)=decide (r.length<=24) from iq.2 (by omega)];simp
 have:((d':Int)==1)=false:=by simp;omega
 have h2:(some d'==some 1)=false:=by simp[h1]
 rw[this,ae,h2,ee]
theorem aeh (ha:0<=a) (hN:70<N):∃ r,∀ kf:Int->aa,uR N a kf=kf r:=by
 have key:∀ (k i n:Nat) (x:Int),i+k=64->k<n->∃ r,∀ kf:Int->aa,kW a n kf x (i:Int)=kf r:=by
  intro k;induction k with
  |zero=>intro i n x hi hn;obtain⟨n,rfl⟩:∃ m,n=m+1:=⟨n - 1,by omega⟩;refine⟨x,λkf=>?_⟩;simp only[kW];rw[fD];rfl
  |succ k ih=>
  intro i n x hi hn;obtain⟨n,rfl⟩:∃ m,n=m+1:=⟨n - 1,by omega⟩;have w1:wrap .i64 ((i:Int)+1)=((i+1:Nat):Int):=iT;simp only[kW];rw[af (show(i:Int)<64 by omega),af ha,af (show(0:Int)<=(i:Int) by omega),w1];simp only[ab];cases (wrap .i64 (BitVec.toNat (BitVec.ofInt (IntKind.bits .i64) (Int.fdiv (i:Int) (2^(min (toNat a) (IntKind.bits .i64))))&&&BitVec.ofInt (IntKind.bits .i64) 1)))==1
  ·exact ih (i+1) n _ (by omega) (by omega)
  exact ih (i+1) n _ (by omega) (by omega)
 exact key 64 0 N 0 (by omega) (by omega)
def opI (x a b:Int):Int:=bif x== -2 then wrap .u64 (BitVec.toNat (BitVec.ofInt (IntKind.bits .u64) a&&&BitVec.ofInt (IntKind.bits .u64) b))else bif x== -3 then wrap .u64 (BitVec.toNat (BitVec.ofInt (IntKind.bits .u64) a|||BitVec.ofInt (IntKind.bits .u64) b))else wrap .u64 (BitVec.toNat (BitVec.ofInt (IntKind.bits .u64) (Sr .u64 a)|||BitVec.ofInt (IntKind.bits .u64) b))
def opS (x:Int) (s:List Int):List Int:=List.set (List.take (s.length - 1) s) (s.length - 2) (opI x (getD s (s.length - 2) 0) (getD s (s.length - 1) 0))
theorem av7 (h2:2<=s.length):(opS x s).length=s.length - 1:=by unfold opS;rw[br,aH];omega
theorem atn (h2:2<=s.length) (hB:s.length<=200) (next:List Int->aa) (no:aa):(bif (length s:Int)≥2 then bif bj (wrap .i64 ((length s:Int) - 2)) (length s)then bif bj (wrap .i64 ((length s:Int) - 1)) (length s)then bif decide ((0:Int)<=0)&&decide (0<=(wrap .i64 ((length s:Int) - 1)))&&decide ((wrap .i64 ((length s:Int) - 1))<=(length s:Int))then bif x==(-2:Int)then bif bj (wrap .i64 ((length s:Int) - 2)) (length (List.take (toNat (wrap .i64 ((length s:Int) - 1))) s))then next (List.set (List.take (toNat (wrap .i64 ((length s:Int) - 1))) s) (toNat (wrap .i64 ((length s:Int) - 2))) (wrap .u64 (BitVec.toNat (BitVec.ofInt (IntKind.bits .u64) (getD s (toNat (wrap .i64 ((length s:Int) - 2))) 0)&&&BitVec.ofInt (IntKind.bits .u64) (getD s (toNat (wrap .i64 ((length s:Int) - 1))) 0)))))else none else bif x==(-3:Int)then bif bj (wrap .i64 ((length s:Int) - 2)) (length (List.take (toNat (wrap .i64 ((length s:Int) - 1))) s))then next (List.set (List.take (toNat (wrap .i64 ((length s:Int) - 1))) s) (toNat (wrap .i64 ((length s:Int) - 2))) (wrap .u64 (BitVec.toNat (BitVec.ofInt (IntKind.bits .u64) (getD s (toNat (wrap .i64 ((length s:Int) - 2))) 0)|||BitVec.ofInt (IntKind.bits .u64) (getD s (toNat (wrap .i64 ((length s:Int) - 1))) 0)))))else none else bif bj (wrap .i64 ((length s:Int) - 2)) (length (List.take (toNat (wrap .i64 ((length s:Int) - 1))) s))then next (List.set (List.take (toNat (wrap .i64 ((length s:Int) - 1))) s) (toNat (wrap .i64 ((length s:Int) - 2))) (wrap .u64 (BitVec.toNat (BitVec.ofInt (IntKind.bits .u64) (Sr .u64 (getD s (toNat (wrap .i64 ((length s:Int) - 2))) 0))|||BitVec.ofInt (IntKind.bits .u64) (getD s (toNat (wrap .i64 ((length s:Int) - 1))) 0)))))else none else none else none else none else no)=next (opS x s):=by
 have hx:=aT;have w1:wrap .i64 ((length s:Int) - 1)=((s.length - 1:Nat):Int):=by rw[iT];omega
 have w2:wrap .i64 ((length s:Int) - 2)=((s.length - 2:Nat):Int):=by rw[iT];omega
 have d3:(decide ((0:Int)<=0)&&decide (0<=((s.length - 1:Nat):Int))&&decide (((s.length - 1:Nat):Int)<=(length s:Int)))=true:=by rw[eZ,eZ,eZ];rfl
 have lt:(List.take (s.length - 1) s).length=s.length - 1:=by rw[aH];omega
 simp only[w1,w2,d3,aj,af (show(length s:Int)≥2 by omega),aJ (show s.length - 2<s.length by omega),aJ (show s.length - 1<s.length by omega),aJ (show s.length - 2<(List.take (s.length - 1) s).length by omega),ab];unfold opS opI;cases x== -2 with
 |true=>rfl
 |false=>cases x== -3<;>rfl
theorem KB (hl:r.length<=1048576) (hN:r.length+100<N):Bu N r kf=kf (FK r):=by
 have hx:=aT
 unfold Bu tS
 rw[ft]
 have mI:pE (r.length:Int) 1 24=decide (1<=r.length/\r.length<=24):=by
  rw[b9,qD,ax];omega
 rw[mI]
 by_cases h24:1<=r.length/\r.length<=24
 rotate_left
 ·rw[ak h24]
  have:FK r=false:=by
   cases hf:FK r with
   |false=>rfl
   |true=>exact absurd (Jr hf) h24
  rw[this];rfl
 ·rw[af h24]
  simp only[ay,ae]
  rw[L9 (by omega) (by omega)]
  refine apy length 200 (no:=kf false) (λi x s hd=>?_) r 0 [] (by simp;omega) (λhg=>?_) (λd' s' hg e1=>?_)
  rotate_left
  ·have hg:isG r 0=none:=hg
   have:FK r=false:=by unfold FK;rw[hg];simp
   rw[this]
  ·have hg:isG r 0=some d':=hg
   have h0:1<=d':=by
    cases r with
    |nil=>simp at h24
    |cons x r=>
     simp only[isG] at hg
     cases hs:isStep x 0 with
     |none=>rw[hs] at hg;cases hg
     |some e=>rw[hs] at hg;exact aod hg (Jq hs).1
   rw[show bj (0:Int) (length s')=true from aJ (i:=0) (by omega),ab,e1]
   congr 1
   unfold FK
   rw[hg,af h24.2,aB,b9]
   simp only[bY,ah]
   omega
  ·simp only[ft]
   cases h5:pE x 0 5 with
   |true=>
    rw[qD] at h5
    obtain⟨rr,hr⟩:=aeh (N:=N) h5.1 (by omega)
    have e:isStep x s.length=some (s.length+1):=by unfold isStep;rw[qD.2 h5];rfl
    rw[e]
    refine⟨λh=>(by cases h),λd' h=>⟨s++[rr],by injection h with h;rw[au];exact h,λnext=>?_⟩⟩
    simp only[ab]
    rw[hr,af (by simp;omega)]
    rfl
   |false=>
    simp only[ae]
    have e0:isStep x s.length=bif (x== -1)&&decide (1<=s.length)then some s.length else bif pE x (-4) (-2)&&decide (2<=s.length)then some (s.length - 1)else none:=by unfold isStep;rw[h5];rfl
    rw[e0]
    by_cases h2:2<=s.length
    ·have l1:=av7 (x:=x) h2
     have l2:=atn (x:=x) h2 hd
     have w1:wrap .i64 ((length s:Int) - 1)=((s.length - 1:Nat):Int):=by rw[iT];omega
     cases hm:x== -1 with
     |true=>
      rw[af (show 1<=s.length by omega)]
      refine⟨λh=>(by cases h),λd' h=>⟨List.set s (s.length - 1) (Sr .u64 (getD s (s.length - 1) 0)),?_,λnext=>?_⟩⟩
      rotate_left
      ·simp only[ab]
       rw[af (show(length s:Int)≥1 by omega),w1,aJ (show s.length - 1<s.length by omega)]
       rfl
      ·injection h with h;rw[br];exact h
     |false=>
      simp only[ae,fE]
      cases pE x (-4) (-2) with
      |true=>
       rw[af h2]
       refine⟨λh=>(by cases h),λd' h=>⟨opS x s,by injection h with h;omega,λnext=>?_⟩⟩
       exact l2 next (kf false)
      |false=>exact⟨λ_ _=>rfl,λd' h=>(by cases h)⟩
    ·have w1:1<=s.length->wrap .i64 ((length s:Int) - 1)=((s.length - 1:Nat):Int):=λh=>by rw[iT];omega
     rw[ak h2,ak (show ¬(length s:Int)≥2 by omega)]
     simp only[ee,ae]
     by_cases h1:1<=s.length
     ·rw[af h1,af (show(length s:Int)≥1 by omega)]
      cases hm:x== -1 with
      |true=>
       refine⟨λh=>(by cases h),λd' h=>⟨List.set s (s.length - 1) (Sr .u64 (getD s (s.length - 1) 0)),?_,λnext=>?_⟩⟩
       rotate_left
       ·simp only[ab]
        rw[w1 h1,aJ (show s.length - 1<s.length by omega)]
        rfl
       ·injection h with h;rw[br];exact h
      |false=>
       cases pE x (-4) (-2)<;>exact⟨λ_ _=>rfl,λd' h=>(by cases h)⟩
     ·rw[ak h1,ak (show ¬(length s:Int)≥1 by omega)]
      cases x== -1<;>cases pE x (-4) (-2)<;>exact⟨λ_ _=>rfl,λd' h=>(by cases h)⟩
inductive Fm where
 |le (n:Nat)
 |no (t:Fm)
 |bi (o:Nat) (a b:Fm)
def okF:Fm->Prop
 | .le n=>n<6
 | .no t=>okF t
 | .bi o a b=>o<3/\okF a/\okF b
def KC:Fm->List Int
 | .le n=>[(n:Int)]
 | .no t=>KC t++[-1]
 | .bi o a b=>KC a++KC b++[-2 - (o:Int)]
def opB:Nat->UInt8
 |0=>38
 |1=>124
 |_=>62
def AG:Fm->List UInt8
 | .le n=>[UInt8.ofNat (97+n)]
 | .no t=>33::AG t
 | .bi o a b=>40::(AG a++(opB o::(AG b++[41])))
theorem Nb:∀ t:Fm,(AG t).length+2<=4*(KC t).length
 | .le n=>by simp[KC,AG]
 | .no t=>by have:=Nb t;simp[KC,AG];omega
 | .bi o a b=>by have:=Nb a;have:=Nb b;simp[KC,AG];omega
def Py:List Fm->List Int
 |[]=>[]
 |t::S=>Py S++KC t
theorem ajZ:∀ (r:List Int) (S:List Fm) (d':Nat),(∀ t∈S,okF t)->isG r S.length=some d'->∃ S':List Fm,S'.length=d'/\(∀ t∈S',okF t)/\Py S'=Py S++r
 |[],S,d',hS,h=>by injection h with h;exact⟨S,h,hS,by simp⟩
 |x::r,S,d',hS,h=>by
  simp only[isG] at h;have fin:∀ (S1:List Fm),isStep x S.length=some S1.length->(∀ t∈S1,okF t)->Py S1=Py S++[x]->∃ S':List Fm,S'.length=d'/\(∀ t∈S',okF t)/\Py S'=Py S++x::r:=λS1 e1 e2 e3=>by rw[e1] at h;obtain⟨S',k1,k2,k3⟩:=ajZ r S1 d' e2 h;exact⟨S',k1,k2,by rw[k3,e3];simp⟩
  cases h5:pE x 0 5 with
  |true=>
  have h6:=qD.1 h5;refine fin (.le x.toNat::S) (by unfold isStep;rw[h5];rfl) (λt ht=>?_) ?_
  ·rcases aV.1 ht with rfl |ht
   ·show x.toNat<6;omega
   exact hS t ht
  show Py S++[(x.toNat:Int)]=_;rw[Int.toNat_of_nonneg h6.1]
  |false=>
  cases h1:(x== -1)&&decide (1<=S.length) with
  |true=>
   simp only[ai,bY,ax] at h1;obtain⟨hx,hl⟩:=h1;subst hx;cases S with
   |nil=>simp at hl
   |cons t S=>
   refine fin (.no t::S) (by simp[isStep,pE]) (λu hu=>?_) ?_
   ·rcases aV.1 hu with rfl |hu
    ·exact hS t (by simp)
    exact hS u (by simp[hu])
   simp[Py,KC]
  |false=>
  cases h4:pE x (-4) (-2)&&decide (2<=S.length) with
  |true=>
   have h4':=h4
   simp only[ai,ax] at h4
   have hx:=qD.1 h4.1
   match S,h4.2,hS,fin,h1,h4' with
   |b::a::S,_,hS,fin,h1,h4'=>
    refine fin (.bi (-2 - x).toNat a b::S) (by unfold isStep;rw[h5,h1,h4'];simp) (λu hu=>?_) ?_
    ·rcases aV.1 hu with rfl |hu
     ·exact⟨by omega,hS a (by simp),hS b (by simp)⟩
     ·exact hS u (by simp[hu])
    ·have:(-2:Int) - ((-2 - x).toNat:Int)=x:=by omega
     simp[Py,KC]
     omega
  |false=>unfold isStep at h;rw[h5,h1,h4] at h;cases h
theorem aft (h:FK r=true):∃ t,okF t/\KC t=r:=by
 unfold FK at h
 simp only[ai,ax,bY] at h
 obtain⟨S,h1,h2,h3⟩:=ajZ r [] 1 (λt ht=>by simp at ht) h.2
 match S,h1,h2,h3 with
 |[t],_,h2,h3=>exact⟨t,h2 t (by simp),by simpa[Py] using h3⟩
theorem V2 (a b:List UInt8):cw a++cw b=cw (a++b):=by apply aec;rw[Ah];simp[cw]
theorem vg (a:List UInt8):(cw a).size=a.length:=by rw[Lib.size_eq,Ah]
theorem ato (h:n<6):ByteArray.extract kn n (n+1)=cw [UInt8.ofNat (97+n)]:=by
 rw[H8];have:n=0∨n=1∨n=2∨n=3∨n=4∨n=5:=by omega
 rcases this with rfl |rfl |rfl |rfl |rfl |rfl<;>rfl
structure ag9 (body:Nat->Int->List ByteArray->(List ByteArray->aa)->aa):Prop where
 le:∀ (i n:Nat) (s:List ByteArray) (next:List ByteArray->aa),n<6->s.length<=1000->body i (n:Int) s next=next (s++[cw [UInt8.ofNat (97+n)]])
 no:∀ (i:Nat) (s:List ByteArray) (w:List UInt8) (next:List ByteArray->aa),w.length<=1000->s.length<=1000->body i (-1) (s++[cw w]) next=next (s++[cw (33::w)])
 bi:∀ (i o:Nat) (s:List ByteArray) (u w:List UInt8) (next:List ByteArray->aa),o<3->u.length<=1000->w.length<=1000->s.length<=1000->body i (-2 - (o:Int)) (s++[cw u,cw w]) next=next (s++[cw (40::(u++(opB o::(w++[41]))))])
theorem Pz (hb:ag9 body):∀ (t:Fm) (rest:List Int) (i:Nat) (s:List ByteArray),okF t->(KC t).length<=24->s.length+(KC t).length<=900->dI body du (KC t++rest) i s=dI body du rest (i+(KC t).length) (s++[cw (AG t)])
 | .le n,rest,i,s,ho,h1,h2=>by show dI body du ((n:Int)::rest) i s=_;simp only[dI];rw[hb.le i n s _ ho (by omega)];rfl
 | .no t,rest,i,s,ho,h1,h2=>by have hl:=Nb t;simp only[KC,au,an,ao] at h1 h2 ⊢;rw[bA,Pz hb t _ i s ho (by omega) (by omega)];show dI body du (-1::rest) _ _=_;simp only[dI];rw[hb.no _ _ _ _ (by omega) (by omega)];rfl
 | .bi o a b,rest,i,s,ho,h1,h2=>by have hl:=Nb a;have hl2:=Nb b;simp only[KC,au,an,ao] at h1 h2 ⊢;rw[bA,bA,Pz hb a _ i s ho.2.1 (by omega) (by omega),Pz hb b _ _ _ ho.2.2 (by omega) (by simp;omega)];show dI body du ((-2 - (o:Int))::rest) _ _=_;simp only[dI];rw[bA];show body _ _ (s++[cw (AG a),cw (AG b)]) _=_;rw[hb.bi _ _ _ _ _ _ ho.1 (by omega) (by omega) (by omega)];congr 1;omega
theorem aoe :(s++[y]).getD s.length ByteArray.empty=y:=by rw[aF,cL (aR _)];simp
theorem V3 :(s++[y,z]).getD s.length ByteArray.empty=y/\(s++[y,z]).getD (s.length+1) ByteArray.empty=z:=by constructor<;>rw[aF,cL (by omega)]<;>simp
theorem aj0 {s:List ByteArray}:(s++[y]).set s.length z=s++[z]:=by rw[jB _ _ (aR _)];simp
theorem ayb (h:o<3):([G4,G5,G6]:List ByteArray).getD o ByteArray.empty=cw [opB o]/\ByteArray.extract gW o (o+1)=cw [opB o]:=by
 have:o=0∨o=1∨o=2:=by omega
 rcases this with rfl |rfl |rfl<;>exact⟨rfl,by rw[H8];rfl⟩
theorem ag':ag9 (λ(i:Nat) (x:Int) (cn:fc) (next:fc->aa)=> bif x≥0 then bif decide (0<=x)&&decide (x<=(wrap .i64 (x+1)))&&decide ((wrap .i64 (x+1))<=(ByteArray.size kn:Int))then bif (length cn+length [(ByteArray.extract kn (toNat x) (toNat (wrap .i64 (x+(1:Int)))))])*1<=4398046511104 then next (cn++[(ByteArray.extract kn (toNat x) (toNat (wrap .i64 (x+(1:Int)))))])else none else none else bif x==(-1:Int)then bif bj (wrap .i64 ((length cn:Int) - 1)) (length cn)then bif ByteArray.size Ke+ByteArray.size (getD cn (toNat (wrap .i64 ((length cn:Int) - 1))) ByteArray.empty)<=9223372036854775807 then bif bj (wrap .i64 ((length cn:Int) - 1)) (length cn)then next (List.set cn (toNat (wrap .i64 ((length cn:Int) - 1))) (Ke++(getD cn (toNat (wrap .i64 ((length cn:Int) - 1))) ByteArray.empty)))else none else none else none else bif bj (wrap .i64 ((length cn:Int) - 2)) (length cn)then bif ByteArray.size nR+ByteArray.size (getD cn (toNat (wrap .i64 ((length cn:Int) - 2))) ByteArray.empty)<=9223372036854775807 then bif bj (wrap .i64 ((length cn:Int) - 1)) (length cn)then bif bj (wrap .i64 ((wrap .i64 (0 - x)) - 2)) (length [G4,G5,G6])then bif ByteArray.size (nR++(getD cn (toNat (wrap .i64 ((length cn:Int) - 2))) ByteArray.empty))+ByteArray.size (getD [G4,G5,G6] (toNat (wrap .i64 ((wrap .i64 (0 - x)) - 2))) ByteArray.empty)<=9223372036854775807 then bif ByteArray.size ((nR++(getD cn (toNat (wrap .i64 ((length cn:Int) - 2))) ByteArray.empty))++(getD [G4,G5,G6] (toNat (wrap .i64 ((wrap .i64 (0 - x)) - 2))) ByteArray.empty))+ByteArray.size (getD cn (toNat (wrap .i64 ((length cn:Int) - 1))) ByteArray.empty)<=9223372036854775807 then bif ByteArray.size (((nR++(getD cn (toNat (wrap .i64 ((length cn:Int) - 2))) ByteArray.empty))++(getD [G4,G5,G6] (toNat (wrap .i64 ((wrap .i64 (0 - x)) - 2))) ByteArray.empty))++(getD cn (toNat (wrap .i64 ((length cn:Int) - 1))) ByteArray.empty))+ByteArray.size zV<=9223372036854775807 then bif decide ((0:Int)<=0)&&decide (0<=(wrap .i64 ((length cn:Int) - 2)))&&decide ((wrap .i64 ((length cn:Int) - 2))<=(length cn:Int))then bif (length (List.take (toNat (wrap .i64 ((length cn:Int) - 2))) cn)+length [((((nR++(getD cn (toNat (wrap .i64 ((length cn:Int) - (2:Int)))) ByteArray.empty))++(getD [G4,G5,G6] (toNat (wrap .i64 ((wrap .i64 (0 - x)) - (2:Int)))) ByteArray.empty))++(getD cn (toNat (wrap .i64 ((length cn:Int) - (1:Int)))) ByteArray.empty))++zV)])*1<=4398046511104 then next ((List.take (toNat (wrap .i64 ((length cn:Int) - 2))) cn)++[((((nR++(getD cn (toNat (wrap .i64 ((length cn:Int) - (2:Int)))) ByteArray.empty))++(getD [G4,G5,G6] (toNat (wrap .i64 ((wrap .i64 (0 - x)) - (2:Int)))) ByteArray.empty))++(getD cn (toNat (wrap .i64 ((length cn:Int) - (1:Int)))) ByteArray.empty))++zV)])else none else none else none else none else none else none else none else none else none):=by
 have hx:=aT;refine⟨λi n s next hn hs=>?_,λi s w next hw hs=>?_,λi o s u w next ho hu hw hs=>?_⟩
 ·have w1:wrap .i64 ((n:Int)+1)=((n+1:Nat):Int):=iT;have sz:ByteArray.size kn=6:=rfl;have d0:decide ((n:Int)≥0)=true:=eZ;have d1:decide (0<=(n:Int))=true:=eZ;have d2:decide ((n:Int)<=((n+1:Nat):Int))=true:=eZ;have d3:decide (((n+1:Nat):Int)<=((6:Nat):Int))=true:=eZ;have d4:decide ((s.length+length [cw [UInt8.ofNat (97+n)]])*1<=4398046511104)=true:=af (by simp only[an,ao];omega);simp only[w1,sz,d0,d1,d2,d3,aj,ato hn,d4,ab,Bool.and_self]
 ·have w1:wrap .i64 ((length (s++[cw w]):Int) - 1)=((s.length:Nat):Int):=(by rw[au,wrap64 (by simp<;>omega) (by simp<;>omega)];simp);have e1:Ke=cw [33]:=rfl;have d0:decide ((-1:Int)≥0)=false:=(by decide);have d1:((-1:Int)== -1)=true:=(by decide);have d2:decide ([(33:UInt8)].length+w.length<=9223372036854775807)=true:=af (by simp only[an,ao];omega);simp only[d0,d1,w1,aJ (show s.length<(s++[cw w]).length by simp),aj,aoe,aj0,e1,V2,vg,d2,ab,ae];rfl
 have w1:wrap .i64 ((length (s++[cw u,cw w]):Int) - 1)=((s.length+1:Nat):Int):=by rw[au,wrap64 (by simp<;>omega) (by simp<;>omega)];simp<;>omega
 have w2:wrap .i64 ((length (s++[cw u,cw w]):Int) - 2)=((s.length:Nat):Int):=by rw[au,wrap64 (by simp<;>omega) (by simp<;>omega)];simp
 have w3:wrap .i64 ((wrap .i64 (0 - (-2 - (o:Int)))) - 2)=(o:Int):=by rw[iT (n:=0 - (-2 - (o:Int))),iT];omega
 have e28:nR=cw [40]:=rfl;have e29:zV=cw [41]:=rfl;have ne1:((-2 - (o:Int))== -1)=false:=by simp<;>omega
 have d3:(decide ((0:Int)<=0)&&decide (0<=((s.length:Nat):Int))&&decide (((s.length:Nat):Int)<=(length (s++[cw u,cw w]):Int)))=true:=by rw[eZ,eZ,af (by simp<;>omega)];rfl
 have tk:List.take s.length (s++[cw u,cw w])=s:=by simp
 rw[w1,w2,w3,ak (show ¬(-2 - (o:Int))≥0 by omega),ne1,aJ (show s.length<(s++[cw u,cw w]).length by simp),aJ (show s.length+1<(s++[cw u,cw w]).length by simp),show bj (o:Int) (length [G4,G5,G6])=true from aJ ho,aj,aj,aj,V3.1,V3.2,(ayb ho).1,e28,e29,d3,tk];simp only[V2,vg,ab,ae];rw[af (by simp<;>omega),af (by simp<;>omega),af (by simp<;>omega),af (by simp<;>omega),af (by simp<;>omega)];simp only[ab];congr 3;simp
theorem aha:ag9 (λ(i:Nat) (x:Int) (aC:fc) (next:fc->aa)=> bif x≥0 then bif decide (0<=x)&&decide (x<=(wrap .i64 (x+1)))&&decide ((wrap .i64 (x+1))<=(ByteArray.size kn:Int))then bif (length aC+length [(ByteArray.extract kn (toNat x) (toNat (wrap .i64 (x+(1:Int)))))])*1<=4398046511104 then next (aC++[(ByteArray.extract kn (toNat x) (toNat (wrap .i64 (x+(1:Int)))))])else none else none else bif x==(-1:Int)then bif bj (wrap .i64 ((length aC:Int) - 1)) (length aC)then bif ByteArray.size Ke+ByteArray.size (getD aC (toNat (wrap .i64 ((length aC:Int) - 1))) ByteArray.empty)<=9223372036854775807 then bif bj (wrap .i64 ((length aC:Int) - 1)) (length aC)then next (List.set aC (toNat (wrap .i64 ((length aC:Int) - 1))) (Ke++(getD aC (toNat (wrap .i64 ((length aC:Int) - 1))) ByteArray.empty)))else none else none else none else bif bj (wrap .i64 ((length aC:Int) - 2)) (length aC)then bif ByteArray.size nR+ByteArray.size (getD aC (toNat (wrap .i64 ((length aC:Int) - 2))) ByteArray.empty)<=9223372036854775807 then bif decide (0<=(wrap .i64 ((-2:Int) - x)))&&decide ((wrap .i64 ((-2:Int) - x))<=(wrap .i64 ((wrap .i64 ((-2:Int) - x))+1)))&&decide ((wrap .i64 ((wrap .i64 ((-2:Int) - x))+1))<=(ByteArray.size gW:Int))then bif ByteArray.size (nR++(getD aC (toNat (wrap .i64 ((length aC:Int) - 2))) ByteArray.empty))+ByteArray.size (ByteArray.extract gW (toNat (wrap .i64 ((-2:Int) - x))) (toNat (wrap .i64 ((wrap .i64 ((-2:Int) - x))+1))))<=9223372036854775807 then bif bj (wrap .i64 ((length aC:Int) - 1)) (length aC)then bif ByteArray.size ((nR++(getD aC (toNat (wrap .i64 ((length aC:Int) - 2))) ByteArray.empty))++(ByteArray.extract gW (toNat (wrap .i64 ((-2:Int) - x))) (toNat (wrap .i64 ((wrap .i64 ((-2:Int) - x))+1)))))+ByteArray.size (getD aC (toNat (wrap .i64 ((length aC:Int) - 1))) ByteArray.empty)<=9223372036854775807 then bif ByteArray.size (((nR++(getD aC (toNat (wrap .i64 ((length aC:Int) - 2))) ByteArray.empty))++(ByteArray.extract gW (toNat (wrap .i64 ((-2:Int) - x))) (toNat (wrap .i64 ((wrap .i64 ((-2:Int) - x))+1)))))++(getD aC (toNat (wrap .i64 ((length aC:Int) - 1))) ByteArray.empty))+ByteArray.size zV<=9223372036854775807 then bif bj (wrap .i64 ((length aC:Int) - 2)) (length aC)then bif decide ((0:Int)<=0)&&decide (0<=(wrap .i64 ((length aC:Int) - 1)))&&decide ((wrap .i64 ((length aC:Int) - 1))<=(length (List.set aC (toNat (wrap .i64 ((length aC:Int) - 2))) ((((nR++(getD aC (toNat (wrap .i64 ((length aC:Int) - 2))) ByteArray.empty))++(ByteArray.extract gW (toNat (wrap .i64 ((-2:Int) - x))) (toNat (wrap .i64 ((wrap .i64 ((-2:Int) - x))+1)))))++(getD aC (toNat (wrap .i64 ((length aC:Int) - 1))) ByteArray.empty))++zV)):Int))then next (List.take (toNat (wrap .i64 ((length aC:Int) - 1))) (List.set aC (toNat (wrap .i64 ((length aC:Int) - 2))) ((((nR++(getD aC (toNat (wrap .i64 ((length aC:Int) - 2))) ByteArray.empty))++(ByteArray.extract gW (toNat (wrap .i64 ((-2:Int) - x))) (toNat (wrap .i64 ((wrap .i64 ((-2:Int) - x))+1)))))++(getD aC (toNat (wrap .i64 ((length aC:Int) - 1))) ByteArray.empty))++zV)))else none else none else none else none else none else none else none else none else none):=by
 have hx:=aT;refine⟨λi n s next hn hs=>?_,λi s w next hw hs=>?_,λi o s u w next ho hu hw hs=>?_⟩
 ·have w1:wrap .i64 ((n:Int)+1)=((n+1:Nat):Int):=iT;have sz:ByteArray.size kn=6:=rfl;have d0:decide ((n:Int)≥0)=true:=eZ;have d1:decide (0<=(n:Int))=true:=eZ;have d2:decide ((n:Int)<=((n+1:Nat):Int))=true:=eZ;have d3:decide (((n+1:Nat):Int)<=((6:Nat):Int))=true:=eZ;have d4:decide ((s.length+length [cw [UInt8.ofNat (97+n)]])*1<=4398046511104)=true:=af (by simp only[an,ao];omega);simp only[w1,sz,d0,d1,d2,d3,aj,ato hn,d4,ab,Bool.and_self]
 ·have w1:wrap .i64 ((length (s++[cw w]):Int) - 1)=((s.length:Nat):Int):=(by rw[au,wrap64 (by simp<;>omega) (by simp<;>omega)];simp);have e1:Ke=cw [33]:=rfl;have d0:decide ((-1:Int)≥0)=false:=(by decide);have d1:((-1:Int)== -1)=true:=(by decide);have d2:decide ([(33:UInt8)].length+w.length<=9223372036854775807)=true:=af (by simp only[an,ao];omega);simp only[d0,d1,w1,aJ (show s.length<(s++[cw w]).length by simp),aj,aoe,aj0,e1,V2,vg,d2,ab,ae];rfl
 have w1:wrap .i64 ((length (s++[cw u,cw w]):Int) - 1)=((s.length+1:Nat):Int):=by rw[au,wrap64 (by simp<;>omega) (by simp<;>omega)];simp<;>omega
 have w2:wrap .i64 ((length (s++[cw u,cw w]):Int) - 2)=((s.length:Nat):Int):=by rw[au,wrap64 (by simp<;>omega) (by simp<;>omega)];simp
 have w3:wrap .i64 ((-2:Int) - (-2 - (o:Int)))=(o:Int):=by rw[iT];omega
 have w4:wrap .i64 ((o:Int)+1)=((o+1:Nat):Int):=iT;have sz:ByteArray.size gW=3:=rfl;have d4:(decide (0<=(o:Int))&&decide ((o:Int)<=((o+1:Nat):Int))&&decide (((o+1:Nat):Int)<=((3:Nat):Int)))=true:=by rw[eZ,eZ,eZ];rfl
 have e28:nR=cw [40]:=rfl;have e29:zV=cw [41]:=rfl;have ne1:((-2 - (o:Int))== -1)=false:=by simp<;>omega
 have d3:∀ z:ByteArray,(decide ((0:Int)<=0)&&decide (0<=((s.length+1:Nat):Int))&&decide (((s.length+1:Nat):Int)<=(length ((s++[cw u,cw w]).set s.length z):Int)))=true:=λz=>by rw[eZ,eZ,af (by simp<;>omega)];rfl
 have tk:∀ z:ByteArray,List.take (s.length+1) ((s++[cw u,cw w]).set s.length z)=s++[z]:=λz=>by rw[jB _ _ (aR _),Nat.sub_self];show List.take (s.length+1) (s++[z,cw w])=_;rw[show s++[z,cw w]=(s++[z])++[cw w] by simp,List.take_left' (by simp)]
 simp only[w1,w2,w3,w4,sz,d4,ak (show ¬(-2 - (o:Int))≥0 by omega),ne1,aJ (show s.length<(s++[cw u,cw w]).length by simp),aJ (show s.length+1<(s++[cw u,cw w]).length by simp),aj,V3.1,V3.2,(ayb ho).2,e28,e29,d3,tk,V2,vg,ab,ae];rw[af (by simp<;>omega),af (by simp<;>omega),af (by simp<;>omega),af (by simp<;>omega)];simp only[ab];congr 3;simp
theorem amq (hl:r.length<=1048576) (hN:r.length<N) (hf:FK r=false):pW N r kf=kf HI:=by unfold pW;rw[BW hl hN,hf];rfl
theorem amr (hl:r.length<=1048576) (hN:r.length+100<N) (hf:FK r=false):pY N r kf=kf HI:=by unfold pY;rw[KB hl hN,hf];rfl
theorem Zv (ht:okF t) (hf:FK (KC t)=true) (hN:(KC t).length<N):pW N (KC t) kf=kf (cw (AG t)):=by have hx:=aT;have h24:=Jr hf;unfold pW;rw[BW (by omega) hN,hf];simp only[ay,ae];rw[NU (by omega) hN];have:=Pz (du:=λ(cn:List ByteArray)=>bif bj 0 (length cn)then kf (getD cn (toNat 0) ByteArray.empty)else none) ag' t [] 0 [] ht (by omega) (by simp;omega);rw[b6] at this;exact this.trans rfl
theorem Zw (ht:okF t) (hf:FK (KC t)=true) (hN:(KC t).length+100<N):pY N (KC t) kf=kf (cw (AG t)):=by have hx:=aT;have h24:=Jr hf;unfold pY;rw[KB (by omega) hN,hf];simp only[ay,ae];rw[NZ (by omega) (by omega)];have:=Pz (du:=λ(aC:List ByteArray)=>bif bj 0 (length aC)then kf (getD aC (toNat 0) ByteArray.empty)else none) aha t [] 0 [] ht (by omega) (by simp;omega);rw[b6] at this;exact this.trans rfl
theorem aAo {s:ByteArray} (h:i<s.size) (h':i<s.data.toList.length):bt s (i:Int)=((s.data.toList[i]).toNat:Int):=by unfold bt;rw[jn (by simpa using h)];simp only[aj];congr 2
theorem Nc {s:ByteArray} {b:UInt8} (h:s.data.toList.drop i=b::r):i<s.size/\bt s (i:Int)=(b.toNat:Int)/\s.data.toList.drop (i+1)=r:=by
 have gU:i<s.data.toList.length:=by have:=bB length h;simp at this;simp;omega
 have sW:i<s.size:=by rw[Lib.size_eq];exact gU
 have h0:=h;rw[aY gU] at h;injection h with h1 h2;exact⟨sW,by rw[aAo sW gU,h1],h2⟩
theorem aof (h:n<6):((UInt8.ofNat (97+n)).toNat:Int)=97+(n:Int):=by
 have:n=0∨n=1∨n=2∨n=3∨n=4∨n=5:=by omega
 rcases this with rfl |rfl |rfl |rfl |rfl |rfl<;>rfl
theorem Ia (hs:s.size<=1000):∀ (t:Fm) (N i:Nat) (rest:List UInt8) (kf:List Int->Int->aa),okF t->s.data.toList.drop i=AG t++rest->(KC t).length<N->(KC t).length<=1000->S67 N s (i:Int) kf=kf (KC t) ((i+(AG t).length:Nat):Int)
 |t,0,i,rest,kf,ht,hd,hN,hr=>by omega
 | .le n,N+1,i,rest,kf,ht,hd,hN,hr=>by obtain⟨h1,h2,h3⟩:=Nc (b:=UInt8.ofNat (97+n)) (r:=rest) hd;have hn:n<6:=ht;show OI (S67 N) N s (i:Int) kf=_;unfold OI;have e:wrap .u8 ((97+(n:Int)) - 97)=(n:Int):=(by have:n=0∨n=1∨n=2∨n=3∨n=4∨n=5:=(by omega);rcases this with rfl |rfl |rfl |rfl |rfl |rfl<;>rfl);rw[fD,ae,aJ h1,ab,h2,aof hn,eZ,ab,eZ,e,iT (n:=(n:Int)),iT (n:=(i:Int)+1)];rfl
 | .no t,N+1,i,rest,kf,ht,hd,hN,hr=>by obtain⟨h1,h2,h3⟩:=Nc (b:=33) (r:=AG t++rest) hd;simp only[KC,au,an,ao] at hN hr;have ih:=λkf=>Ia hs t N (i+1) rest kf ht h3 (by omega) (by omega);have hl:=Nb t;show OI (S67 N) N s (i:Int) kf=_;unfold OI;have b33:((33:UInt8).toNat:Int)=33:=rfl;have w1:wrap .i64 ((i:Int)+1)=((i+1:Nat):Int):=iT;rw[fD,ae,aJ h1,ab,h2,b33,fD,ae,ab,show((33:Int)==33)=true from rfl,ab,w1,ih,af (by simp only[an,ao];omega),ab];simp only[KC,AG,an];congr 2;omega
 | .bi o a b,N+1,i,rest,kf,ht,hd,hN,hr=>by
  obtain⟨h1,h2,h3⟩:=Nc (b:=40) (r:=AG a++(opB o::(AG b++(41::rest)))) (by rw[hd];simp[AG]);simp only[KC,au,an,ao] at hN hr;have iha:=λkf=>Ia hs a N (i+1) _ kf ht.2.1 h3 (by omega) (by omega);obtain⟨k1,k2,k3⟩:=Nc (i:=i+1+(AG a).length) (b:=opB o) (r:=AG b++(41::rest)) (by rw[←ef,h3,dy]);have ihb:=λkf=>Ia hs b N (i+1+(AG a).length+1) _ kf ht.2.2 k3 (by omega) (by omega);obtain⟨m1,m2,m3⟩:=Nc (i:=i+1+(AG a).length+1+(AG b).length) (b:=41) (r:=rest) (by rw[←ef,k3,dy]);have b40:((40:UInt8).toNat:Int)=40:=rfl;have b41:((41:UInt8).toNat:Int)=41:=rfl;have w1:wrap .i64 ((i:Int)+1)=((i+1:Nat):Int):=iT;have w2:wrap .i64 (((i+1+(AG a).length:Nat):Int)+1)=((i+1+(AG a).length+1:Nat):Int):=iT;have w3:wrap .i64 (((i+1+(AG a).length+1+(AG b).length:Nat):Int)+1)=((i+1+(AG a).length+1+(AG b).length+1:Nat):Int):=iT;have jj:∀ y:Int,y≠0->Eb (S67 N) s kf (KC a) ((i+1+(AG a).length:Nat):Int) y=kf ((KC a++KC b)++[y]) ((i+1+(AG a).length+1+(AG b).length+1:Nat):Int):=λy hy=>(by unfold Eb;rw[w2,ihb];have y0:(y==0)=false:=bP.2 hy;rw[y0,ae,fD,ae,fD,ae,aJ m1,ab,m2,b41,show((41:Int) != 41)=false from rfl,ae,eZ,ab,af (by simp only[au,an,ao];omega),ab,w3]);show OI (S67 N) N s (i:Int) kf=_;unfold OI;rw[fD,ae,aJ h1,ab,h2,b40,fD,ae,ab,show((40:Int)==33)=false from rfl,ae,ab,show((40:Int)==40)=true from rfl,ab,w1,iha,fD,ae,fD,ae,aJ k1,ab,k2,jj (-2) (by decide),jj (-3) (by decide),jj (-4) (by decide)];have fin:∀ y:Int,y=-2 - (o:Int)->kf ((KC a++KC b)++[y]) ((i+1+(AG a).length+1+(AG b).length+1:Nat):Int)=kf (KC (.bi o a b)) ((i+(AG (.bi o a b)).length:Nat):Int):=λy hy=>by
   subst hy;have:i+1+(AG a).length+1+(AG b).length+1=i+(AG (.bi o a b)).length:=by simp[AG];omega
   rw[this];rfl
  have ho:o=0∨o=1∨o=2:=(by have:=ht.1;omega);rcases ho with rfl |rfl |rfl
  ·exact fin _ rfl
  ·exact fin _ rfl
  exact fin _ rfl
theorem ac5 (ha:a.length<=1048700) (hb:b.length<=1048700) (hc:c.length<=1048700) (hN:3<N):mf N [a,b,c] kf=kf (a++b++c):=by
 have hm:=aT;unfold mf;rw[BM (by simp;omega) (by simpa using hN)];simp only[dI];rw[iT (n:=(0:Int)+(length a:Int)),fD,ae,iT (n:=(0:Int)+(length a:Int)+(length b:Int)),fD,ae,iT (n:=(0:Int)+(length a:Int)+(length b:Int)+(length c:Int)),fD,ae];unfold avE;have e:(List.isEmpty ([]:List Int)&&(decide ((0:Int)<=0+(length a:Int)+(length b:Int)+(length c:Int))&&decide (0+(length a:Int)+(length b:Int)+(length c:Int)<=549755813888)))=true:=by rw[eZ,eZ];rfl
 rw[e,ab];show fi [a,b,c] (length [a,b,c]:Int) N kf [] 0=_;rw[Ag (by simp;omega) (by simpa using hN)];simp only[dI];rw[af (by simp;omega),ab,af (by simp;omega),ab,af (by simp;omega),ab];rfl
theorem wK :(ByteArray.toList (cw (b::r))==ByteArray.toList HI)=false:=by refine bP.2 λh=>?_;rw[gD,gD,Ah] at h;cases h
theorem Qe:(ByteArray.toList (cw [])==ByteArray.toList HI)=true:=by rw[bY,gD,gD];rfl
theorem Aj :bj 0 (ByteArray.size (cw (b::r)))=true/\bt (cw (b::r)) 0=(b.toNat:Int)/\ByteArray.extract (cw (b::r)) (toNat 1) (toNat (ByteArray.size (cw (b::r)):Int))=cw r/\(decide ((0:Int)<=1)&&decide (1<=(ByteArray.size (cw (b::r)):Int))&&decide ((ByteArray.size (cw (b::r)):Int)<=(ByteArray.size (cw (b::r)):Int)))=true:=by
 obtain⟨h1,h2,h3⟩:=Nc (s:=cw (b::r)) (i:=0) (b:=b) (r:=r) (by rw[Ah];rfl);refine⟨aJ (i:=0) h1,h2,?_,?_⟩
 ·rw[aj,H8,Ah,vg];congr 1;simp
 rw[eZ,eZ,eZ];rfl
theorem Ib:∀ (t:Fm) (N:Nat) (rest:List UInt8) (kf:List Int->ByteArray->Bool->aa),okF t->(KC t).length+5<N->(KC t).length<=1000->ad' N (cw (AG t++rest)) kf=kf (KC t) (cw rest) true
 |t,0,rest,kf,ht,hN,hr=>by omega
 | .le n,N+1,rest,kf,ht,hN,hr=>by have hn:n<6:=ht;show IS (ad' N) N (cw (UInt8.ofNat (97+n)::rest)) kf=_;obtain⟨p1,p2,p3,p4⟩:=Aj (b:=UInt8.ofNat (97+n)) (r:=rest);unfold IS;have f1:((97+(n:Int))==33)=false:=(by simp;omega);have f2:((97+(n:Int))==40)=false:=(by simp;omega);rw[wK,ae,p1,ab,p2,aof hn,f1,ae,ab,f2,ae,ab,p4,ab,p3,iT (n:=97+(n:Int)),iT];show kf [97+(n:Int) - 97] _ _=kf [(n:Int)] _ _;congr 2;omega
 | .no t,N+1,rest,kf,ht,hN,hr=>by simp only[KC,au,an,ao] at hN hr;show IS (ad' N) N (cw (33::(AG t++rest))) kf=_;obtain⟨p1,p2,p3,p4⟩:=Aj (b:=33) (r:=AG t++rest);have b33:((33:UInt8).toNat:Int)=33:=rfl;unfold IS;rw[wK,ae,p1,ab,p2,b33,show((33:Int)==33)=true from rfl,ab,p4,ab,p3,Ib t N rest _ ht (by omega) (by omega),af (by simp only[an,ao];omega),ab];rfl
 | .bi o a b,N+1,rest,kf,ht,hN,hr=>by
  simp only[KC,au,an,ao] at hN hr;have ed:AG (.bi o a b)++rest=40::(AG a++(opB o::(AG b++(41::rest)))):=by simp[AG]
  rw[ed];show IS (ad' N) N (cw (40::(AG a++(opB o::(AG b++(41::rest)))))) kf=_;obtain⟨p1,p2,p3,p4⟩:=Aj (b:=40) (r:=AG a++(opB o::(AG b++(41::rest))));obtain⟨q1,q2,q3,q4⟩:=Aj (b:=opB o) (r:=AG b++(41::rest));obtain⟨r1,r2,r3,r4⟩:=Aj (b:=41) (r:=rest);have b40:((40:UInt8).toNat:Int)=40:=rfl;have b41:((41:UInt8).toNat:Int)=41:=rfl;have fL:LH gW ((opB o).toNat:Int)=(o:Int):=(by have ho:o=0∨o=1∨o=2:=(by have:=ht.1;omega);rcases ho with rfl |rfl |rfl<;>rfl);unfold IS;rw[wK,ae,p1,ab,p2,b40,show((40:Int)==33)=false from rfl,ae,ab,show((40:Int)==40)=true from rfl,ab,p4,ab,p3,Ib a N _ _ ht.2.1 (by omega) (by omega)];simp only[ay,ae];rw[wK,ae,q1,ab];unfold avD;simp only[q2,fL];rw[q4,ab,q3,Ib b N _ _ ht.2.2 (by omega) (by omega),fD,ae];simp only[ay,ae];rw[wK,ae,r1,ab,r2,b41,show((41:Int) != 41)=false from rfl,ae,r4,ab,ac5 (by omega) (by omega) (by simp) (by omega),r3,wrap64 (by have:=ht.1;omega) (by have:=ht.1;omega)];rfl
theorem j12: @abQ=@Eb:=rfl
def afu (s:ByteArray) (i:Nat) (r:List Int) (p:Int):Prop:=(∃ q:Nat,p=(q:Int)/\i<q/\q<=s.size/\r.length+i<=q)∨(p=-1/\r.length+i<=s.size)
theorem Ic (h:i<=s.size):afu s i [] (-1):=.inr ⟨rfl,by simpa using h⟩
theorem RP (hs:s.size<=1000):∀ (N i:Nat),i<=s.size->s.size<N+i->∃ r p,(∀ kf,S67 N s (i:Int) kf=kf r p)/\afu s i r p
 |0,i,h1,h2=>by omega
 |N+1,i,h1,h2=>by
  have hx:=aT;have ih:=RP hs N;by_cases hi:i=s.size
  ·refine⟨[],-1,λkf=>?_,Ic h1⟩;show OI (S67 N) N s (i:Int) kf=_;unfold OI;rw[eZ];rfl
  have gU:i<s.size:=(by omega);have w1:wrap .i64 ((i:Int)+1)=((i+1:Nat):Int):=iT;obtain⟨ra,pa,ea,ga⟩:=ih (i+1) (by omega) (by omega);have jj:∀ (q:Nat) (y:Int),pa=(q:Int)->q<s.size->∃ r p,(∀ kf,Eb (S67 N) s kf ra (q:Int) y=kf r p)/\afu s i r p:=λq y hq hqs=>by
   have hqa:i+1<q/\ra.length+(i+1)<=q:=by
    rcases ga with⟨q',e1,e2,e3,e4⟩ |⟨e1,_⟩
    ·omega
    omega
   obtain⟨rb,pb,eb,gb⟩:=ih (q+1) (by omega) (by omega);have w2:wrap .i64 ((q:Int)+1)=((q+1:Nat):Int):=iT;have no:∀ (A:(List Int->Int->aa)->aa),(∀ kf,A kf=kf [] (-1))->∃ r p,(∀ kf,A kf=kf r p)/\afu s i r p:=λA h=>⟨[],-1,h,Ic h1⟩;unfold Eb;simp only[w2,eb];cases y==0 with
   |true=>exact⟨[],-1,λkf=>rfl,Ic h1⟩
   |false=>
    rcases gb with⟨q2,e1,e2,e3,e4⟩ |⟨e1,_⟩
    rotate_left
    ·subst e1;exact⟨[],-1,λkf=>rfl,Ic h1⟩
    subst e1
    rw[ak (show ¬(q2:Int)<0 by omega)]
    by_cases h2:q2=s.size
    ·refine⟨[],-1,λkf=>?_,Ic h1⟩
     rw[eZ]
     rfl
    ·rw[ak (show ¬(q2:Int)≥(s.size:Int) by omega),aJ (show q2<s.size by omega)]
     cases hb:(bt s (q2:Int) != 41) with
     |true=>exact⟨[],-1,λkf=>rfl,Ic h1⟩
     |false=>
      have w3:wrap .i64 ((q2:Int)+1)=((q2+1:Nat):Int):=iT
      refine⟨(ra++rb)++[y],((q2+1:Nat):Int),λkf=>?_,.inl ⟨q2+1,rfl,by omega,by omega,by simp only[au,an,ao];omega⟩⟩
      simp only[ab,ae]
      rw[eZ,ab,af (by simp only[au,an,ao];omega),ab,w3]
  have tail:∃ r p,(∀ kf,(bif (bt s (i:Int))==33 then
      S67 N s ((i+1:Nat):Int) (λ(aiP:az) (arE:Int)=>
       bif (length aiP+length [(-1:Int)])*1<=4398046511104 then
        kf (aiP++[(-1:Int)]) arE
       else none)
     else
       bif (bt s (i:Int))==40 then
        S67 N s ((i+1:Nat):Int) (λ(Ee:az) (qm:Int)=>
         bif qm<0 then
          kf ([]:az) (-1:Int)
         else
          bif qm≥(ByteArray.size s:Int)then
           kf ([]:az) (-1:Int)
          else
           bif bj qm (ByteArray.size s)then
            bif (bt s qm)==38 then
             Eb (S67 N) s kf Ee qm (-2:Int)
            else
             bif (bt s qm)==124 then
              Eb (S67 N) s kf Ee qm (-3:Int)
             else
              bif (bt s qm)==62 then
               Eb (S67 N) s kf Ee qm (-4:Int)
              else
               Eb (S67 N) s kf Ee qm 0
           else none)
       else
        kf ([]:az) (-1:Int))=kf r p)/\afu s i r p:=by
   have hla:ra.length<=1000:=by
    rcases ga with⟨q',e1,e2,e3,e4⟩ |⟨e1,e2⟩<;>omega
   simp only[ea]
   cases bt s (i:Int)==33 with
   |true=>
    refine⟨ra++[-1],pa,λkf=>?_,?_⟩
    ·rw[af (by simp only[an,ao];omega)];rfl
    ·rcases ga with⟨q',e1,e2,e3,e4⟩ |⟨e1,e2⟩
     ·exact .inl ⟨q',e1,by omega,e3,by simp only[au,an,ao];omega⟩
     ·exact .inr ⟨e1,by simp only[au,an,ao];omega⟩
   |false=>
    cases bt s (i:Int)==40 with
    |false=>exact⟨[],-1,λkf=>rfl,Ic h1⟩
    |true=>
     simp only[ab,ae]
     rcases ga with⟨q,e1,e2,e3,e4⟩ |⟨e1,e2⟩
     rotate_left
     ·subst e1;exact⟨[],-1,λkf=>rfl,Ic h1⟩
     subst e1
     rw[ak (show ¬(q:Int)<0 by omega)]
     by_cases h2:q=s.size
     ·refine⟨[],-1,λkf=>?_,Ic h1⟩
      rw[eZ]
      rfl
     ·rw[ak (show ¬(q:Int)≥(s.size:Int) by omega),aJ (show q<s.size by omega)]
      cases bt s (q:Int)==38
      rotate_left
      ·exact jj q _ rfl (by omega)
      cases bt s (q:Int)==124
      rotate_left
      ·exact jj q _ rfl (by omega)
      cases bt s (q:Int)==62
      rotate_left
      ·exact jj q _ rfl (by omega)
      ·exact jj q _ rfl (by omega)
  show ∃ r p,(∀ kf,OI (S67 N) N s (i:Int) kf=kf r p)/\afu s i r p;unfold OI;rw[j12];simp only[ak (show ¬(i:Int)≥(s.size:Int) by omega),aJ gU,ab,ae,w1];cases decide (bt s (i:Int)≥97) with
  |false=>exact tail
  |true=>
  cases decide (bt s (i:Int)<=102) with
  |false=>exact tail
  |true=>exact⟨_,_,λkf=>rfl,.inl ⟨i+1,rfl,by omega,by omega,by simp only[an,ao];omega⟩⟩
theorem RQ:∀ (N:Nat) (D:List UInt8),D.length<=1000->D.length+5<N->∃ r rest b,(∀ kf,ad' N (cw D) kf=kf r (cw rest) b)/\r.length+rest.length<=D.length
 |0,D,h1,h2=>by omega
 |N+1,D,h1,h2=>by
  have hx:=aT;have ih:=RQ N;show ∃ r rest b,(∀ kf,IS (ad' N) N (cw D) kf=kf r (cw rest) b)/\r.length+rest.length<=D.length;unfold IS;have no:∀ {A:(List Int->ByteArray->Bool->aa)->aa},(∀ kf,A kf=kf [] HI false)->∃ r rest b,(∀ kf,A kf=kf r (cw rest) b)/\r.length+rest.length<=D.length:=λh=>⟨[],[],false,h,by simp⟩;cases D with
  |nil=>rw[Qe];exact no λkf=>rfl
  |cons c D=>
  simp only[an] at h1 h2 ⊢;obtain⟨p1,p2,p3,p4⟩:=Aj (b:=c) (r:=D);obtain⟨ra,sa,ba,ea,ga⟩:=ih D (by omega) (by omega);simp only[wK,p1,p2,p3,p4,ea,ab,ae];cases (c.toNat:Int)==33 with
  |true=>refine⟨ra++[-1],sa,ba,λkf=>?_,by simp only[au,an,ao];omega⟩;rw[af (by simp only[an,ao];omega)];rfl
  |false=>
  cases (c.toNat:Int)==40 with
  |false=>exact⟨_,D,true,λkf=>rfl,by simp only[an,ao];omega⟩
  |true=>
  simp only[ab,ae];cases ba with
  |false=>exact no λkf=>rfl
  |true=>
  simp only[ay,ae];cases sa with
  |nil=>rw[Qe];exact no λkf=>rfl
  |cons o sa=>
  simp only[an] at ga;obtain⟨q1,q2,q3,q4⟩:=Aj (b:=o) (r:=sa);obtain⟨rb,sb,bb,eb,gb⟩:=ih sa (by omega) (by omega);unfold avD;simp only[wK,q1,q2,q3,q4,eb,ab,ae];cases decide (LH gW (o.toNat:Int)<0) with
  |true=>exact no λkf=>rfl
  |false=>
  simp only[ae];cases bb with
  |false=>exact no λkf=>rfl
  |true=>
  simp only[ay,ae];cases sb with
  |nil=>rw[Qe];exact no λkf=>rfl
  |cons z sb=>
  simp only[an] at gb;obtain⟨r1,r2,r3,r4⟩:=Aj (b:=z) (r:=sb);simp only[wK,r1,r2,r3,r4,ab,ae];cases (z.toNat:Int) != 41 with
  |true=>exact no λkf=>rfl
  |false=>refine⟨ra++rb++[wrap .i64 ((-2:Int) - LH gW (o.toNat:Int))],sb,true,λkf=>?_,by simp only[au,an,ao];omega⟩;simp only[ae];rw[ac5 (by omega) (by omega) (by simp) (by omega)]
def atp (s:ByteArray) (t:Fm):Prop:=okF t/\FK (KC t)=true/\s=cw (AG t)
theorem V4:(ByteArray.toList a==ByteArray.toList b)=true↔a=b:=by rw[bY,gD,gD];exact⟨λh=>aec h,λh=>by rw[h]⟩
theorem atq (t:Fm):∃ b r,AG t=b::r:=by
 cases t with
 |le n=>exact⟨_,_,rfl⟩
 |no t=>exact⟨_,_,rfl⟩
 |bi o a b=>exact⟨_,_,rfl⟩
theorem aj1 (h:atp s t) (hN:200<N):gn N s kf=kf (KC t) true:=by
 obtain⟨ho,hf,rfl⟩:=h;have h24:=Jr hf;have hl:=Nb t;have sW:=vg (AG t);unfold gn;have hr:=λkf=>Ia (s:=cw (AG t)) (by omega) t N 0 [] kf ho (by rw[Ah,b6];rfl) (by omega) (by omega);simp only[aW] at hr;rw[fD,ae,show(0:Int)=((0:Nat):Int) from rfl,hr,sW];have e:(((AG t).length:Int) != ((AG t).length:Int))=false:=by simp
 rw[e,ae,Zv ho hf (by omega)];obtain⟨b,r,hb⟩:=atq t;rw[hb,wK];simp
theorem aj2 (h:atp s t) (hN:200<N):jV N s kf=kf (KC t) true:=by obtain⟨ho,hf,rfl⟩:=h;have h24:=Jr hf;have hl:=Nb t;have sW:=vg (AG t);unfold jV;have hr:=λkf=>Ib t N [] kf ho (by omega) (by omega);rw[b6] at hr;rw[fD,ae,hr,Qe];simp only[ay,ae];rw[Zw ho hf (by omega)];simp
theorem ams (h:∀ t,¬atp s t) (hN:2000<N):gn N s kf=kf [] false:=by
 unfold gn
 by_cases hs:s.size<=200
 rotate_left
 ·rw[eZ];rfl
 obtain⟨r,p,hr,hg⟩:=RP (s:=s) (by omega) N 0 (by omega) (by omega)
 have hlen:r.length<=1000:=by
  rcases hg with⟨q,e1,e2,e3,e4⟩ |⟨e1,e2⟩<;>omega
 rw[fD,ae,show(0:Int)=((0:Nat):Int) from rfl,hr]
 cases p != (s.size:Int) with
 |true=>rfl
 |false=>
  simp only[ae]
  cases hf:FK r with
  |false=>
   rw[amq (by omega) (by omega) hf]
   cases he:(ByteArray.toList HI==ByteArray.toList s) with
   |false=>rfl
   |true=>
    have:=V4.1 he
    subst this
    simp
  |true=>
   obtain⟨t,ht,e⟩:=aft hf
   subst e
   rw[Zv ht hf (by omega)]
   cases he:(ByteArray.toList (cw (AG t))==ByteArray.toList s) with
   |false=>rfl
   |true=>exact absurd ⟨ht,hf,(V4.1 he).symm⟩ (h t)
theorem amt (h:∀ t,¬atp s t) (hN:2000<N):jV N s kf=kf [] false:=by
 unfold jV
 by_cases hs:s.size<=100
 rotate_left
 ·rw[eZ];rfl
 rw[fD,ae]
 obtain⟨D,rfl⟩:∃ D,s=cw D:=⟨s.data.toList,(Yd s).symm⟩
 rw[vg] at hs
 cases D with
 |nil=>
  obtain⟨n,rfl⟩:∃ n,N=n+1:=⟨N - 1,by omega⟩
  show IS (ad' n) n (cw []) _=_
  unfold IS
  rw[Qe]
  rfl
 |cons c D=>
  obtain⟨r,rest,b,hr,hg⟩:=RQ N (c::D) (by omega) (by omega)
  rw[hr]
  cases b with
  |false=>rfl
  |true=>
   simp only[ay,ae]
   cases ByteArray.toList (cw rest)==ByteArray.toList HI with
   |false=>rfl
   |true=>
    simp only[ay,ae]
    cases hf:FK r with
    |false=>
     rw[amr (by omega) (by omega) hf]
     cases he:(ByteArray.toList HI==ByteArray.toList (cw (c::D))) with
     |false=>rfl
     |true=>
      have:=V4.1 he
      have h2:=wK (b:=c) (r:=D)
      rw[←this] at h2
      simp at h2
    |true=>
     obtain⟨t,ht,e⟩:=aft hf
     subst e
     rw[Zw ht hf (by omega)]
     cases he:(ByteArray.toList (cw (AG t))==ByteArray.toList (cw (c::D))) with
     |false=>rfl
     |true=>exact absurd ⟨ht,hf,(V4.1 he).symm⟩ (h t)
theorem V5 {α β:Type} {p:α->Bool} {f:α->β}:∀ (l:List α) (i:Nat),lE (λ_ x=>p x) (λ_ x=>f x) l i=(l.filter p).map f
 |[],_=>rfl
 |x::r,i=>by simp only[lE,fO];cases p x<;>simp[V5 r]
def atr {α:Type} (g:α->Int):List α->Int
 |[]=>0
 |x::r=>g x+atr g r
def aDe (x:bC):Int:=(x.met.length:Int)
structure Fair (t:List bC):Prop where
 nd:∀ x:bC,x∈t->x.met.Nodup
 df:∀ x y:bC,x∈t->y∈t->y.1∈x.met->x.2.1≠y.2.1
 w:2*atr (λx:bC=>x.2.2.1) t=atr aDe t
 f:2*atr (λx:bC=>x.2.2.2.2.1) t=atr aDe t
structure Good (c:cK):Prop where
 cl:gu c=true
 fa:Fair c.1
 mi:(ND c.2.2.2.2.2.1:Int)=c.2.2.2.2.2.2+c.2.2.2.2.1.length - (dG c).length
def av8:cK:=([],([],([],([],([],([],0))))))
theorem Good.ev (h:Good c) (hN:400<N):Z8 c N:=(ajW h.cl).evC hN
def amu (l:List bC):Prop:=∀ x:bC,x∈l->0<=x.2.2.1/\x.2.2.1<=20
theorem amu.NM (h:amu (x::r)):amu r:=λy hy=>h y (er _ hy)
def Z9:dq:=(5,[[0,1],[1,0],[1,2],[2,3],[3,4],[4,2]])
theorem av9 (M:Nat) (kf:List az->aa):I1 (M+300) Z9 kf=kf [[0],[1,3]]:=by kernel_rfl
theorem Yl {α:Type} {p:Nat->α->Bool}:∀ {l:List α} {i:Nat},y∈lE p (λi _=>(i:Int)) l i->0<=y/\y<(i:Int)+l.length
 |[],i,h=>by simp[lE] at h
 |x::r,i,h=>by
  unfold lE at h;simp only[an];cases hp:p i x with
  |true=>
  rw[hp] at h;rcases aV.1 h with rfl |h
  ·omega
  have:=Yl h;omega
  |false=>rw[hp] at h;have:=Yl (i:=i+1) h;omega
theorem aDf {N:Nat} {id ja:Int} {kf:cK->Bool->aa} (h:Z8 c N):yb N c id ja kf=kf (nZ c (1,(id,(ja,0)))).1 (nZ c (1,(id,(ja,0)))).2:=(Yc h.ok h.tb h.tN h.N2 h.mN).trans (afs (c:=c) (r:=NL c (Kw c id ja) 1 id) (k:=kf))
theorem aAp {N:Nat} {id ja:Int} {kf:cK->Bool->aa} (h:Z8 c N):wz N c id ja kf=kf (nZ c (2,(id,(ja,0)))).1 (nZ c (2,(id,(ja,0)))).2:=VK h.ok h.jb h.jN h.N2 h.mN
theorem aDg {kf:cK->Bool->aa} (h:Z8 c N):yd N c kf=kf (nZ c (3,(0,(0,0)))).1 (nZ c (3,(0,(0,0)))).2:=Yk h.ok h.ok' h.N2 h.mN
theorem av' {N:Nat} {kf:cK->Bool->aa} (h:Z8 c N):uU N c n f s kf=kf (nZ c (4,(f,(s,n)))).1 (nZ c (4,(f,(s,n)))).2:=(S0 h.ok h.N2 h.mN).trans (afs (c:=c) (r:=NL c (RH c n f s) 4 (Pg c n f s).1) (k:=kf))
theorem aAq {kf:cK->Bool->aa} (h:Z8 c N):wC N c kf=kf (nZ c (5,(0,(0,0)))).1 (nZ c (5,(0,(0,0)))).2:=V1 h.ok h.N2 h.mN
theorem aAr {N:Nat} {id:Int} {kf:cK->Bool->aa} (h:Z8 c N):wD N c id kf=kf (nZ c (6,(id,(0,0)))).1 (nZ c (6,(id,(0,0)))).2:=(VI h.ok h.N2 h.mN).trans (afs (c:=c) (r:=NL c (M9 c id) 6 id) (k:=kf))
def aj3 (w:List UInt8):Bool:=!w.isEmpty
def PA (s:ByteArray):List ByteArray:=((S9 32 s.data.toList).filter aj3).map cw
theorem Ym (w:List UInt8):(!(ByteArray.toList (cw w)==ByteArray.toList HI))=aj3 w:=by
 cases w with
 |nil=>rw[Qe];rfl
 |cons b r=>rw[wK];rfl
theorem Zx:∀ l:List (List UInt8),(l.map cw).filter (λw=>!(ByteArray.toList w==ByteArray.toList HI))=(l.filter aj3).map cw
 |[]=>rfl
 |w::r=>by rw[bq,fO,fO,Ym,Zx r];cases aj3 w<;>simp
theorem ac6 (s:ByteArray):(PA s).length<=s.size+1:=by unfold PA;rw[bh];have h1:=List.length_filter_le aj3 (S9 32 s.data.toList);have h2:=ag4 32 s.data.toList;have h3:s.data.toList.length=s.size:=(Lib.size_eq s).symm;omega
theorem Th {N:Nat} {s:ByteArray} {c z:cK} {K:List ByteArray->aa} (hs:s.size<=2000000) (hN:s.size+10<N):S38 N s A7 (λr=>fV s c z r (length r:Int) N K [] 0)=K (PA s):=by
 have hm:=aT;have hl:=ag4 32 s.data.toList;have sW:s.data.toList.length=s.size:=(Lib.size_eq s).symm;unfold S38;have hc:(Nat.blt (ByteArray.size s) 4294967281&&Nat.beq (ByteArray.size A7) 1)=true:=by have h1:Nat.blt (ByteArray.size s) 4294967281=true:=(by rw[Nat.blt_eq];omega);rw[h1];rfl
 have e32:D' s A7=(S9 32 s.data.toList).map cw:=aps s 32;rw[hc,ab,e32];dsimp only;have hlen:((S9 32 s.data.toList).map cw).length=(S9 32 s.data.toList).length:=bh ..;rw[N4 (by omega) (by omega),mS (l:=(S9 32 s.data.toList).map cw) (c:=λ_ w=>!(ByteArray.toList w==ByteArray.toList HI)) (f:=λ_ w=>w) (λi w z next hi e hz=>?_) ((S9 32 s.data.toList).map cw) 0 [] rfl (aR _),V5,List.map_id',Zx]
 ·rfl
 cases hq:(!(ByteArray.toList w==ByteArray.toList HI)) with
 |false=>rfl
 |true=>rw[ab,af (by simp only[an,ao];omega)];rfl
def gl (w:List UInt8):List (List UInt8)->List (List UInt8)
 |[]=>[w]
 |h::t=>(w++h)::t
theorem GO {K:List ByteArray->aa} (hs:s.size<=2000000):∀ (r:List UInt8) (i n:Nat) (o:List ByteArray) (w:List UInt8),s.data.toList.drop i=r->i<=s.size->r.length+1<n->o.length<=i->w.length<=i-> gX s n K o (cw w) (i:Int)=K (o++((gl w (S9 32 r)).filter aj3).map cw)
 |[],i,n,o,w,hd,hi,hn,ho,hw=>by have sW:s.data.toList.length=s.size:=(Lib.size_eq s).symm;have mI:i=s.size:=(by have:=bB length hd;simp only[a8,ao] at this;omega);obtain⟨n,rfl⟩:∃ f,n=f+2:=⟨n - 2,by simp only[ao] at hn;omega⟩;have ape:∀ (o:List ByteArray) (w:ByteArray),gX s (n+1) K o w ((s.size:Int)+1)=K o:=λo w=>(by unfold gX;rw[fD];rfl);unfold gX;rw[mI,eZ,fD];simp only[ab,ae];unfold w9;rw[Ym,iT,ape,ape,af (by simp only[an,ao];omega)];cases hw:aj3 w<;>simp[S9,gl,hw]
 |b::r,i,n,o,w,hd,hi,hn,ho,hw=>by
  have sW:s.data.toList.length=s.size:=(Lib.size_eq s).symm;obtain⟨n,rfl⟩:∃ f,n=f+1:=⟨n - 1,by omega⟩;obtain⟨h1,h2,h3⟩:=Nc hd;simp only[an] at hn;have hx:ByteArray.extract s i (i+1)=cw [b]:=(by rw[H8,hd];have:i+1 - i=1:=(by omega);rw[this];rfl);have hp:cw w++cw [b]=cw (w++[b]):=(by apply aec;simp only[Pq,Ah]);have hbb:((b.toNat:Int) != 32)=!(b==32):=by
   by_cases e:b=32
   ·subst e;rfl
   have h32:(32:UInt8).toNat=32:=rfl;have:((b.toNat:Int))≠32:=λh=>e (wI.1 (by omega));rw[qU.2 this,bP.2 e];rfl
  have hw1:wrap .i64 ((i:Int)+1)=((i+1:Nat):Int):=(by rw[iT];omega);unfold gX;rw[eZ,eZ,aJ h1,h2,hbb];simp only[ab];cases hb:b==32 with
  |false=>simp only[bD,ab];rw[hw1,af (show(0:Int)<=(i:Int) by omega),af (show(i:Int)<=((i+1:Nat):Int) by omega),af (show((i+1:Nat):Int)<=(ByteArray.size s:Int) by omega)];simp only[dd,ab,aj];simp only[hx];rw[af (by rw[vg,vg];simp only[an,ao];omega),ab,hp,GO hs r (i+1) n o (w++[b]) h3 (by omega) (by omega) (by omega) (by simp;omega)];obtain⟨v,vs,e⟩:=VM 32 r;simp only[S9,hb,ae,e,gl,bA,iQ]
  |true=>
  simp only[ay,ae];unfold w9;have hz:HI=cw []:=rfl;have key:=λo ho=>GO (K:=K) hs r (i+1) n o [] h3 (by omega) (by omega) ho (by simp);have hg:gl [] (S9 32 r)=S9 32 r:=by obtain⟨v,vs,e⟩:=VM 32 r;rw[e];rfl
  rw[Ym,hw1];simp only[S9,hb,ab,gl,b6,fO];cases hnw:aj3 w with
  |false=>simp only[ae];rw[hz,key o (by omega),hg];rfl
  |true=>simp only[ab];rw[af (by simp only[an,ao];omega),ab,hz,key (o++[cw w]) (by simp;omega),hg,bA];rfl
theorem Ti {K:List ByteArray->aa} (hs:s.size<=2000000) (hN:s.size+10<N):KY N s K=K (PA s):=by
 have sW:s.data.toList.length=s.size:=(Lib.size_eq s).symm;have h:=GO (K:=K) hs s.data.toList 0 N [] [] rfl (by omega) (by omega) (by simp) (by simp);have hg:gl [] (S9 32 s.data.toList)=S9 32 s.data.toList:=by obtain⟨v,vs,e⟩:=VM 32 s.data.toList;rw[e];rfl
 rw[hg] at h;exact h
def okA (ws:List ByteArray):Bool:=ws.all λw=>okI w.data.toList
def Nd (ws:List ByteArray):List Int:=ws.map λw=>acR w.data.toList
theorem Yn :∀ (ws:List ByteArray) (i:Nat) (z:List Int),z.length+ws.length<=3000000->dI (λ(i:Nat) (x:ByteArray) (z:List Int) (next:List Int->aa)=>bif !okI x.data.toList then A else bif (length z+length [acR x.data.toList])*1<=4398046511104 then next (z++[acR x.data.toList])else none) k ws i z=bif okA ws then k (z++Nd ws)else A
 |[],i,z,h=>by simp[dI,okA,Nd]
 |w::r,i,z,h=>by
  simp only[an] at h;simp only[dI,okA,Nd,lM,bq];cases hw:okI w.data.toList with
  |false=>rfl
  |true=>simp only[ay,ae,aB];rw[af (by simp only[an,ao];omega),ab,Yn r (i+1) _ (by simp only[au,an,ao];omega),bA];rfl
theorem apz {N:Nat} {c z:cK} {kf:cK->ByteArray->aa} (hO:cZ c N) (h40:40<N) (hl:ws.length<=2000001) (hN:ws.length<N):gC N c z ws0 ws (length ws:Int) N k kf [] 0=bif okA ws then k (Nd ws)else kf c gQ:=by
 have hm:=aT;rw[M4 (by omega) hN];have:=Yn (A:=kf c gQ) (k:=k) ws 0 [] (by simp;omega);simp only[b7] at this;rw[←this];congr 1;funext i x z next
 rw[Yf h40,dm hO]
theorem apA (h40:40<N) (hl:ws.length<=2000001) (hN:ws.length<N) (hA:∀ z,k z false=A):HP N ws k=bif okA ws then k (Nd ws) true else A:=by
 have hm:=aT;unfold HP;rw[U7 (by omega) hN];have:=Yn (A:=A) (k:=λz=>k z true) ws 0 [] (by simp;omega);simp only[b7] at this;rw[←this];congr 1;funext i x z next
 rw[Ye h40,hA]
def AJ (w s:ByteArray):Bool:=ByteArray.toList w==ByteArray.toList s
theorem uD {w s:ByteArray} (h:AJ w s=true):w=s:=V4.1 h
def aj4 (w:ByteArray):Bool:=AJ w LL||(AJ w OG||(AJ w Kf||(AJ w qh||(AJ w A8||(AJ w A9||(AJ w s7||(AJ w Ba||(AJ w E4||(AJ w ug||AJ w tO)))))))))
def Li (w:ByteArray):Int:=bif aj4 w then 0 else bif AJ w E3||AJ w Kg then 1 else bif AJ w KX||AJ w yL then 2 else bif AJ w A6 then 3 else -1
theorem yi {N:Nat} {w:ByteArray} {k:Int->aa}:IU N w k=k (Li w):=by
 have e:∀ s,(ByteArray.toList w==ByteArray.toList s)=AJ w s:=λs=>rfl
 unfold IU je K4 K3 Li aj4
 simp only[e]
 cases AJ w LL
 rotate_left
 ·rfl
 cases AJ w OG
 rotate_left
 ·rfl
 cases AJ w Kf
 rotate_left
 ·rfl
 cases AJ w qh
 rotate_left
 ·rfl
 cases AJ w A8
 rotate_left
 ·rfl
 cases AJ w A9
 rotate_left
 ·rfl
 cases AJ w s7
 rotate_left
 ·rfl
 cases AJ w Ba
 rotate_left
 ·rfl
 cases AJ w E4
 rotate_left
 ·rfl
 cases AJ w ug
 rotate_left
 ·rfl
 cases AJ w tO
 rotate_left
 ·rfl
 cases AJ w E3
 rotate_left
 ·rfl
 cases AJ w Kg
 rotate_left
 ·rfl
 cases AJ w KX
 rotate_left
 ·rfl
 cases AJ w yL
 rotate_left
 ·rfl
 cases AJ w A6<;>rfl
theorem cf {a b:ByteArray} {x y:aa} (h:(ByteArray.toList a==ByteArray.toList b)=false):(bif ByteArray.toList a==ByteArray.toList b then x else y)=y:=by rw[h];rfl
theorem ct {a b:ByteArray} {x y:aa} (h:(ByteArray.toList a==ByteArray.toList b)=true):(bif ByteArray.toList a==ByteArray.toList b then x else y)=x:=by rw[h];rfl
def ahb (F G:(ByteArray->aa)->aa):Prop:=∃ s,(∀ k,F k=k s)/\∀ k,G k=k s
section
variable {M:Nat} {c:cK}
theorem amv:ahb (gY (M+400) c ug []) (eC (M+400) c ug):=⟨iz,λk=>by kernel_rfl,λk=>by kernel_rfl⟩
theorem att (M:Nat) (kf:List az->aa):IP (M+300) Z9 kf=kf [[0],[1,3]]:=by kernel_rfl
theorem atu:ahb (gY (M+400) c tO []) (eC (M+400) c tO):=by
 refine⟨⟨#[123,48,125,123,49,44,51,125]⟩,λk=>?_,λk=>?_⟩
 ·have e2:K7 (M+400) [[0],[1,3]] k=k ⟨#[123,48,125,123,49,44,51,125]⟩:=(by kernel_rfl);unfold gY;refine((cf (by kernel_rfl)).trans ((cf (by kernel_rfl)).trans ((cf (by kernel_rfl)).trans ((cf (by kernel_rfl)).trans ((cf (by kernel_rfl)).trans ((cf (by kernel_rfl)).trans (ct (by kernel_rfl)))))))).trans ?_;unfold ov;exact(av9 (M+100) _).trans e2
 have e2:K1 (M+400) [[0],[1,3]] k=k ⟨#[123,48,125,123,49,44,51,125]⟩:=by kernel_rfl
 unfold eC;refine((cf (by kernel_rfl)).trans ((cf (by kernel_rfl)).trans ((cf (by kernel_rfl)).trans ((cf (by kernel_rfl)).trans ((cf (by kernel_rfl)).trans ((cf (by kernel_rfl)).trans ((cf (by kernel_rfl)).trans (ct (by kernel_rfl))))))))).trans ?_;unfold oq;exact(att (M+100) _).trans e2
theorem atv (M:Nat) (kf:Bool->aa):∀ a:Nat,a<5->Ae (M+400) Z9 (a:Int) kf=kf false/\tR (M+400) Z9 (a:Int) kf=kf false
 |0,_=>⟨by kernel_rfl,by kernel_rfl⟩
 |1,_=>⟨by kernel_rfl,by kernel_rfl⟩
 |2,_=>⟨by kernel_rfl,by kernel_rfl⟩
 |3,_=>⟨by kernel_rfl,by kernel_rfl⟩
 |4,_=>⟨by kernel_rfl,by kernel_rfl⟩
 |n+5,h=>by omega
theorem aDh (M:Nat) (k:Bool->aa):rD (M+400) Z9 k=k true:=by kernel_rfl
theorem aDi (M:Nat) (k:Bool->aa):uo (M+400) Z9 k=k true:=by kernel_rfl
theorem aog (a:Int) (kf:Bool->aa):Ae (M+400) Z9 a kf=kf false/\tR (M+400) Z9 a kf=kf false:=by
 by_cases h:0<=a/\a<5
 ·obtain⟨k,rfl⟩:∃ k:Nat,a=(k:Int):=⟨a.toNat,by omega⟩;exact atv M kf k (by omega)
 have h4:wrap .i64 (Z9.1 - 1)=4:=by decide+kernel
 unfold Ae tR uw bw cj;rw[aDh,aDi,h4];by_cases h0:0<=a
 ·rw[af h0,ak (show ¬a<=4 by omega)];exact⟨rfl,rfl⟩
 rw[ak h0];exact⟨rfl,rfl⟩
end
end Go.Pv.R
namespace Go.Pv.R
open List Int IntKind
def Hd (N:Nat) (c:cK) (w:ByteArray) (n:List Int) (kf:cK->ByteArray->aa):aa:=
 jd N w n λe=>bif e.1>0 then uP N c e (λy ok=>HV N c y ok kf)else
  bif (length n:Int)==0 then
   bif ByteArray.toList w==ByteArray.toList LL then kf av8 OH else bX N c (λx=>eC N c w (kf x))
  else bif (length n:Int)==1 then
   bif ByteArray.toList w==ByteArray.toList Kg then bX N c (λx=>tR N Z9 (getD n 0 0) (λb=>pM N b (kf x)))else bX N c (λx=>kf x gQ)
  else bX N c (λx=>kf x gQ)
theorem atw (w:ByteArray):(Li w=0->aj4 w=true)/\(Li w=1->(AJ w E3||AJ w Kg)=true)/\(Li w=2->(AJ w KX||AJ w yL)=true)/\(Li w=3->AJ w A6=true)/\Li w<=3:=by unfold Li;generalize aj4 w=b0;generalize (AJ w E3||AJ w Kg)=b1;generalize (AJ w KX||AJ w yL)=b2;generalize AJ w A6=b3;revert b0 b1 b2 b3;decide
theorem xL {w s:ByteArray} {v:Int} (hs:Li s=v) (h:Li w≠v):AJ w s=false:=by
 cases hh:AJ w s with
 |false=>rfl
 |true=>rw[uD hh] at h;exact absurd hs h
theorem aAs:Li LL=0:=by decide+kernel
theorem awa:Li KX=2:=by decide+kernel
theorem atx:Li yL=2:=by decide+kernel
theorem awb:Li OG=0:=by decide+kernel
theorem apB:Li A6=3:=by decide+kernel
theorem aty:Li Kf=0:=by decide+kernel
theorem atz:Li E3=1:=by decide+kernel
theorem aAt:Li Kg=1:=by decide+kernel
theorem aj5:Li qh=0:=by decide+kernel
theorem atA:Li A8=0:=by decide+kernel
theorem atB:Li A9=0:=by decide+kernel
theorem amw:Li s7=0:=by decide+kernel
theorem awc:Li Ba=0:=by decide+kernel
theorem atC:Li E4=0:=by decide+kernel
theorem aj6:Li ug=0:=by decide+kernel
theorem ahc:Li tO=0:=by decide+kernel
theorem awd {N:Nat} {w:ByteArray} {n:List Int} {k:QL->aa} (h:Li w≠(n.length:Int)):jd N w n k=k (0,(0,(0,0))):=by
 have e:∀ s,(ByteArray.toList w==ByteArray.toList s)=AJ w s:=λs=>rfl;have eqn:∀ v:Nat,n.length=v->∀ u:Int,((length n:Int)==u)=((v:Int)==u):=λv hv u=>by rw[hv]
 by_cases l0:n.length=0
 ·have h:Li w≠0:=(by rw[l0] at h;exact h);simp only[jd,eqn 0 l0,e,xL awb h,xL aty h];rfl
 by_cases l1:n.length=1
 ·have h:Li w≠1:=(by rw[l1] at h;exact h);simp only[jd,eqn 1 l1,e,xL atz h];rfl
 by_cases l2:n.length=2
 ·have h:Li w≠2:=(by rw[l2] at h;exact h);simp only[jd,eqn 2 l2,e,xL awa h,xL atx h];rfl
 by_cases l3:n.length=3
 ·have h:Li w≠3:=(by rw[l3] at h;exact h);simp only[jd,eqn 3 l3,e,xL apB h];rfl
 have d:∀ u:Nat,u<4->((length n:Int)==(u:Int))=false:=λu hu=>bP.2 (by omega);have d0:((length n:Int)==0)=false:=d 0 (by omega);have d1:((length n:Int)==1)=false:=d 1 (by omega);have d2:((length n:Int)==2)=false:=d 2 (by omega);have d3:((length n:Int)==3)=false:=d 3 (by omega);simp only[jd,d0,d1,d2,d3,ae]
theorem atD {N:Nat} {c:cK} {w:ByteArray} {k:ByteArray->aa} (h:Li w≠0):eC N c w k=k gQ:=by have e:∀ s,(ByteArray.toList w==ByteArray.toList s)=AJ w s:=λs=>rfl;unfold eC;simp only[e,xL aj5 h,xL atA h,xL atB h,xL amw h,xL awc h,xL atC h,xL aj6 h,xL ahc h,ae]
theorem ac7 {N:Nat} {c:cK} {w:ByteArray} {n:List Int} {k:cK->ByteArray->aa} (hO:cZ c N) (h:Li w≠(n.length:Int)):Hd N c w n k=k c gQ:=by
 unfold Hd;rw[awd h,ak (by decide),ae];by_cases l0:n.length=0
 ·have h:Li w≠0:=(by rw[l0] at h;exact h);have hn:(ByteArray.toList w==ByteArray.toList LL)=false:=xL aAs h;rw[l0,hn,dS hO,atD h];rfl
 have d0:((length n:Int)==0)=false:=bP.2 (by omega);rw[d0,ae];by_cases l1:n.length=1
 ·have h:Li w≠1:=(by rw[l1] at h;exact h);have hn:(ByteArray.toList w==ByteArray.toList Kg)=false:=xL aAt h;rw[hn];simp only[dS hO,ae];cases ((length n:Int)==1)<;>rfl
 have d1:((length n:Int)==1)=false:=bP.2 (by omega);rw[d1,ae,dS hO]
section
variable {M:Nat} {c:cK}
theorem FL {w:ByteArray} (h:∀ k,jd (M+400) w [] k=k (0,(0,(0,0)))) (hn:(ByteArray.toList w==ByteArray.toList LL)=false) (k:cK->ByteArray->aa):Hd (M+400) c w [] k=bX (M+400) c λx=>eC (M+400) c w (k x):=by unfold Hd;rw[h,hn];rfl
theorem atE (k:cK->ByteArray->aa):Hd (M+400) c LL [] k=k av8 OH:=by kernel_rfl
theorem aEl (a:Int) (F:Int->aa):(bif bj 0 (length [a])then F (getD [a] (toNat 0) 0)else none)=F a:=rfl
end
end Go.Pv.R
namespace Go.Pv.R
open List Int IntKind
abbrev VV:Type:=Fin 64->Bool
def GP (i x:Int):Bool:=(wrap .i64 (BitVec.toNat (BitVec.ofInt (IntKind.bits .i64) (Int.fdiv i (2^(min (toNat x) (IntKind.bits .i64))))&&&BitVec.ofInt (IntKind.bits .i64) 1)))==1
def tW (v:Int):VV:=λm=>(BitVec.ofInt 64 v).getLsbD m.val
def awe (x:Int):VV:=λm=>GP (m.val:Int) x
def opV (x:Int) (a b:VV):VV:=λm=>bif x== -2 then a m&&b m else bif x== -3 then a m||b m else !a m||b m
def KD (x:Int) (S:List VV):List VV:=bif pE x 0 5 then S++[awe x] else bif x== -1 then S.set (S.length - 1) (λm=>!(S.getD (S.length - 1) (λ_=>false)) m)else S.take (S.length - 2)++[opV x (S.getD (S.length - 2) (λ_=>false)) (S.getD (S.length - 1) (λ_=>false))]
theorem apC (h:isStep x S.length=some d):(KD x S).length=d:=by
 unfold isStep at h;unfold KD;cases h0:pE x 0 5 with
 |true=>rw[h0,ab] at h;injection h with h;simp[h]
 |false=>
 rw[h0,ae] at h;cases h1:x== -1 with
 |true=>
  rw[h1] at h;cases h2:decide (1<=S.length) with
  |true=>rw[h2] at h;injection h with h;simp[h]
  |false=>rw[h2] at h;have h3:decide (2<=S.length)=false:=(by rw[decide_eq_false_iff_not] at h2 ⊢;omega);rw[h3] at h;simp at h
 |false=>
 rw[h1] at h;cases h2:pE x (-4) (-2)&&decide (2<=S.length) with
 |true=>rw[h2] at h;simp only[ai,ax] at h2;injection h with h;simp only[ae,au,aH,an,ao];omega
 |false=>rw[h2] at h;cases h
theorem ac8 {σ:Type} {body:Nat->Int->σ->(σ->aa)->aa} {k:σ->aa} (Rel:σ->List VV->Prop) (B:Nat) (hb:∀ (i:Nat) (x:Int) (s:σ) (S:List VV) (d:Nat),Rel s S->S.length<=B->isStep x S.length=some d->∃ s',Rel s' (KD x S)/\∀ next,body i x s next=next s'):∀ (r:List Int) (i:Nat) (s:σ) (S:List VV) (d:Nat),Rel s S->S.length+r.length<=B->isG r S.length=some d-> ∃ s',Rel s' (r.foldl (λS x=>KD x S) S)/\(r.foldl (λS x=>KD x S) S).length=d/\dI body k r i s=k s'
 |[],i,s,S,d,h,hB,hg=>⟨s,h,by injection hg,rfl⟩
 |x::r,i,s,S,d,h,hB,hg=>by
  simp only[an] at hB;simp only[isG] at hg;cases hs:isStep x S.length with
  |none=>rw[hs] at hg;cases hg
  |some e=>rw[hs] at hg;obtain⟨s',h1,h2⟩:=hb i x s S e h (by omega) hs;have hl:=apC hs;have hp:=Jq hs;obtain⟨s'',h3,h4,h5⟩:=ac8 (k:=k) Rel B hb r (i+1) s' (KD x S) d h1 (by omega) (by rw[hl];exact hg);exact⟨s'',h3,h4,by simp only[dI];rw[h2];exact h5⟩
def U64 (v:Int):Prop:=0<=v/\v<18446744073709551616
theorem ac9 {n:Nat} (h:n<18446744073709551616):wrap .u64 (n:Int)=(n:Int):=by simp[wrap,IntKind.bits,IntKind.signed];omega
theorem bvU (X:BitVec 64):wrap .u64 (X.toNat:Int)=(X.toNat:Int)/\U64 (wrap .u64 (X.toNat:Int))/\BitVec.ofInt 64 (wrap .u64 (X.toNat:Int))=X:=by have h:X.toNat<18446744073709551616:=X.isLt;rw[ac9 h];exact⟨rfl,⟨by omega,by omega⟩,by rw[na,BitVec.ofNat_toNat,BitVec.setWidth_eq]⟩
theorem ac' (X:BitVec 64):tW (wrap .u64 (X.toNat:Int))=λm=>X.getLsbD m.val:=by unfold tW;rw[(bvU X).2.2]
theorem V6 (v:Int):U64 (Sr .u64 v)/\tW (Sr .u64 v)=λm=>!tW v m:=by
 have e:Sr .u64 v=wrap .u64 ((BitVec.ofInt 64 18446744073709551615^^^BitVec.ofInt 64 v).toNat:Int):=rfl;rw[e];refine⟨(bvU _).2.1,?_⟩;rw[ac'];funext m;have h1:(BitVec.ofInt 64 18446744073709551615)=BitVec.allOnes 64:=by decide+kernel
 rw[h1,BitVec.getLsbD_xor,BitVec.getLsbD_allOnes,af m.isLt,Bool.true_xor];rfl
theorem atF (a b:Int):U64 (wrap .u64 (BitVec.toNat (BitVec.ofInt (IntKind.bits .u64) a&&&BitVec.ofInt (IntKind.bits .u64) b)))/\tW (wrap .u64 (BitVec.toNat (BitVec.ofInt (IntKind.bits .u64) a&&&BitVec.ofInt (IntKind.bits .u64) b)))=λm=>tW a m&&tW b m:=by refine⟨(bvU _).2.1,?_⟩;refine(ac' _).trans ?_;funext m;exact BitVec.getLsbD_and
theorem aoh (a b:Int):U64 (wrap .u64 (BitVec.toNat (BitVec.ofInt (IntKind.bits .u64) a|||BitVec.ofInt (IntKind.bits .u64) b)))/\tW (wrap .u64 (BitVec.toNat (BitVec.ofInt (IntKind.bits .u64) a|||BitVec.ofInt (IntKind.bits .u64) b)))=λm=>tW a m||tW b m:=by refine⟨(bvU _).2.1,?_⟩;refine(ac' _).trans ?_;funext m;exact BitVec.getLsbD_or
def afv:List Int:=[12297829382473034410,14757395258967641292,17361641481138401520,18374966859414961920,18446462603027742720,18446744069414584320]
theorem aAu (M:Nat) (k:Int->aa):∀ a:Nat,a<6->uR (M+400) (a:Int) k=k (afv.getD a 0)
 |0,_=>by kernel_rfl
 |1,_=>by kernel_rfl
 |2,_=>by kernel_rfl
 |3,_=>by kernel_rfl
 |4,_=>by kernel_rfl
 |5,_=>by kernel_rfl
 |n+6,h=>by omega
theorem atG:∀ (a:Fin 6) (m:Fin 64),tW (afv.getD a.val 0) m=awe (a.val:Int) m:=by decide+kernel
theorem aDj:∀ a:Fin 6,0<=afv.getD a.val 0/\afv.getD a.val 0<18446744073709551616:=by decide+kernel
theorem aAv (M:Nat) (m:Int) (k:List Bool->aa):Kh (M+400) m k=k [GP m 0,GP m 1,GP m 2,GP m 3,GP m 4,GP m 5]:=by kernel_rfl
theorem take_set {α:Type} (y:α):∀ (s:List α) (n:Nat),n<s.length->(s.take (n+1)).set n y=s.take n++[y]
 |[],n,h=>by simp at h
 |a::s,0,h=>by simp
 |a::s,n+1,h=>by have:=take_set y s n (by simpa using h);simp[this]
theorem getD_map {α β:Type} (f:α->β) (s:List α) (i:Nat) (z:α) (w:β) (h:i<s.length):(s.map f).getD i w=f (s.getD i z):=by rw[aI _ _ h,aI _ _ (by rw[bh];exact h),vl]
def aAw (s:List Int) (S:List VV):Prop:=s.map tW=S/\∀ v∈s,U64 v
theorem aj7 (h0:pE x 0 5=false) (h1:(x== -1)=true) (h:isStep x n=some d):1<=n:=by
 unfold isStep at h;rw[h0,h1] at h;by_cases hn:1<=n
 ·exact hn
 rw[ak hn,ak (show ¬ 2<=n by omega)] at h;simp at h
theorem aj8 (h0:pE x 0 5=false) (h1:(x== -1)=false) (h:isStep x n=some d):2<=n/\pE x (-4) (-2)=true:=by
 unfold isStep at h;rw[h0,h1] at h;cases h2:pE x (-4) (-2)&&decide (2<=n) with
 |true=>simp only[ai,ax] at h2;exact⟨h2.2,h2.1⟩
 |false=>rw[h2] at h;simp at h
theorem atH (x a b:Int):U64 (opI x a b)/\tW (opI x a b)=opV x (tW a) (tW b):=by
 unfold opI opV;cases x== -2 with
 |true=>exact atF a b
 |false=>
 cases x== -3 with
 |true=>exact aoh a b
 |false=>have h:=aoh (Sr .u64 a) b;rw[(V6 a).2] at h;exact h
theorem ahd (h:U64 a):((BitVec.ofInt 64 a).toNat:Int)=a:=by unfold U64 at h;rw[BitVec.toNat_ofInt];omega
theorem afw (ha:U64 a) (hb:U64 b) (h:tW a=tW b):a=b:=by have e:BitVec.ofInt 64 a=BitVec.ofInt 64 b:=BitVec.eq_of_getLsbD_eq λi hi=>congrFun h ⟨i,hi⟩;rw[←ahd ha,←ahd hb,e]
theorem aj9 (hp:aAw s S) (hl:S.length=1):∃ R,s=[R]/\U64 R/\S=[tW R]:=by
 have hs:s.length=1:=by rw[←hp.1,bh] at hl;exact hl
 match s,hs with
 |[R],_=>exact⟨R,rfl,hp.2 R (by simp),hp.1.symm⟩
theorem apD {M:Nat} {f:List Int} (hf:FK f=true):∃ R,U64 R/\f.foldl (λS x=>KD x S) []=[tW R]/\∀ kf,tS (M+400) f kf=kf R true:=by
 have hx:=aT;obtain⟨l1,l2⟩:=Jr hf;have hg:isG f 0=some 1:=by unfold FK at hf;simp only[ai,bY] at hf;exact hf.2
 have key:∀ kf:Int->Bool->aa,∃ s':List Int,aAw s' (f.foldl (λS x=>KD x S) [])/\(f.foldl (λS x=>KD x S) []).length=1/\tS (M+400) f kf=(bif bj 0 (length s')then kf (getD s' (toNat 0) 0) ((length s':Int)==1)else none):=λkf=>by
  unfold tS;rw[ft,qD.2 (by omega)];simp only[ay,ae];rw[L9 (by omega) (by omega)];refine ac8 aAw 100 (λi x s S d hR hB hs=>?_) f 0 [] [] 1 ⟨rfl,λv hv=>by cases hv⟩ (by simp;omega) hg;obtain⟨hS,hU⟩:=hR;have hlen:S.length=s.length:=by rw[←hS,bh]
  rw[hlen] at hs hB;simp only[ft];unfold KD;rw[hlen];cases h5:pE x 0 5 with
  |true=>
  rw[qD] at h5;obtain⟨a,rfl⟩:∃ a:Nat,x=(a:Int):=⟨x.toNat,by omega⟩;have ha:a<6:=(by omega);refine⟨s++[afv.getD a 0],⟨?_,λv hv=>?_⟩,λnext=>?_⟩
  ·rw[ab,k8,hS,bq,od];have:tW (afv.getD a 0)=awe (a:Int):=funext λm=>atG ⟨a,ha⟩ m;rw[this]
  ·rcases bd.1 hv with hv |hv
   ·exact hU v hv
   rw[bu.1 hv];exact aDj ⟨a,ha⟩
  simp only[ab];rw[aAu M _ a ha,af (by simp;omega)];rfl
  |false=>
  simp only[ae];cases hm:x== -1 with
  |true=>
  have h1:=aj7 h5 hm hs;have w1:wrap .i64 ((length s:Int) - 1)=((s.length - 1:Nat):Int):=(by rw[iT];omega);refine⟨List.set s (s.length - 1) (Sr .u64 (getD s (s.length - 1) 0)),⟨?_,λv hv=>?_⟩,λnext=>?_⟩
  ·rw[ab,oe,hS,(V6 _).2,←hS,getD_map tW s (s.length - 1) 0 _ (by omega)]
  ·rcases fX hv with hv |rfl
   ·exact hU v hv
   exact(V6 _).1
  simp only[ab];rw[af (show(length s:Int)≥1 by omega),w1,aJ (show s.length - 1<s.length by omega)];rfl
  |false=>
  obtain⟨h2,h3⟩:=aj8 h5 hm hs;refine⟨opS x s,⟨?_,λv hv=>?_⟩,λnext=>?_⟩
  ·have e:opS x s=s.take (s.length - 2)++[opI x (getD s (s.length - 2) 0) (getD s (s.length - 1) 0)]:=(by unfold opS;have:=take_set (opI x (getD s (s.length - 2) 0) (getD s (s.length - 1) 0)) s (s.length - 2) (by omega);rw[show s.length - 2+1=s.length - 1 by omega] at this;exact this);rw[e,k8,List.map_take,hS,bq,od,(atH x _ _).2,←hS,getD_map tW s (s.length - 1) 0 _ (by omega),getD_map tW s (s.length - 2) 0 _ (by omega)];rfl
  ·unfold opS at hv;rcases fX hv with hv |rfl
   ·exact hU v (fW hv)
   exact(atH x _ _).1
  simp only[ae,h3,ab];exact atn (x:=x) h2 (by omega) next _
 obtain⟨s0,hp,hl,e0⟩:=key λ_ _=>none;obtain⟨R,rfl,hR,e1⟩:=aj9 hp hl;refine⟨R,hR,e1,λkf=>?_⟩;obtain⟨s1,hp1,TZ,e2⟩:=key kf;obtain⟨R1,rfl,hR1,e3⟩:=aj9 hp1 TZ;rw[e2,afw hR1 hR (List.cons.inj (e3.symm.trans e1)).1];rfl
def awf (f:List Int) (m:Fin 64):Bool:=((f.foldl (λS x=>KD x S) []).getD 0 (λ_=>false)) m
theorem atI {M:Nat} {f:List Int} (hf:FK f=true) (m:Fin 64) (kf:Bool->aa):Kh (M+400) (m.val:Int) (λrow=>IH (M+400) f row kf)=kf (awf f m):=by
 have hx:=aT;obtain⟨l1,l2⟩:=Jr hf;have hg:isG f 0=some 1:=by unfold FK at hf;simp only[ai,bY] at hf;exact hf.2
 rw[aAv];have wc:∀ a:Nat,a<6->getD [GP (m.val:Int) 0,GP (m.val:Int) 1,GP (m.val:Int) 2,GP (m.val:Int) 3,GP (m.val:Int) 4,GP (m.val:Int) 5] a false=awe (a:Int) m:=λa ha=>by
  match a,ha with
  |0,_=>rfl
  |1,_=>rfl
  |2,_=>rfl
  |3,_=>rfl
  |4,_=>rfl
  |5,_=>rfl
 have hrl:(length [GP (m.val:Int) 0,GP (m.val:Int) 1,GP (m.val:Int) 2,GP (m.val:Int) 3,GP (m.val:Int) 4,GP (m.val:Int) 5])=6:=rfl;generalize [GP (m.val:Int) 0,GP (m.val:Int) 1,GP (m.val:Int) 2,GP (m.val:Int) 3,GP (m.val:Int) 4,GP (m.val:Int) 5]=row at*;have hp:∀ S:List VV,∀ i,i<S.length->(S.map λv=>v m).getD i false=(S.getD i (λ_=>false)) m:=λS i hi=>getD_map (λv:VV=>v m) S i (λ_=>false) false hi;have key:∃ s':List Bool,s'=((f.foldl (λS x=>KD x S) []).map λv=>v m)/\(f.foldl (λS x=>KD x S) []).length=1/\IH (M+400) f row kf=(bif bj 0 (length s')then kf (getD s' (toNat 0) false)else none):=by
  unfold IH;rw[BW (by omega) (by omega),hf];simp only[ay,ae];rw[ZI (by omega) (by omega)];refine ac8 (λ(b:List Bool) (S:List VV)=>b=S.map λv=>v m) 100 (λi x b S d hR hB hs=>?_) f 0 [] [] 1 rfl (by simp;omega) hg;subst hR;have hlen:(S.map λv=>v m).length=S.length:=bh ..;unfold KD;cases h5:pE x 0 5 with
  |true=>rw[qD] at h5;obtain⟨a,rfl⟩:∃ a:Nat,x=(a:Int):=⟨x.toNat,by omega⟩;have ha:a<6:=(by omega);refine⟨_,rfl,λnext=>?_⟩;rw[af (show(a:Int)≥0 by omega),eZ,aJ (by omega),aj,wc a ha,af (by simp only[bh,an,ao];omega)];simp only[ab];rw[k8];rfl
  |false=>
  cases hm:x== -1 with
  |true=>have h1:=aj7 h5 hm hs;have hx1:x=-1:=(by simpa using hm);have w1:wrap .i64 ((S.length:Int) - 1)=((S.length - 1:Nat):Int):=(by rw[iT];omega);refine⟨_,rfl,λnext=>?_⟩;rw[fD,hlen,w1,aJ (show S.length - 1<S.length by omega),aj,hp S _ (by omega)];simp only[ae,ab];rw[oe]
  |false=>obtain⟨h2,h3⟩:=aj8 h5 hm hs;rw[qD] at h3;have w1:wrap .i64 ((S.length:Int) - 1)=((S.length - 1:Nat):Int):=(by rw[iT];omega);have w2:wrap .i64 ((S.length:Int) - 2)=((S.length - 2:Nat):Int):=(by rw[iT];omega);refine⟨_,rfl,λnext=>?_⟩;have fL:∀ (a b:Bool) (k:Bool->aa),IF (M+400) x a b k=k (bif x== -2 then a&&b else bif x== -3 then a||b else !a||b):=λa b k=>(by unfold IF;cases x== -2<;>cases x== -3<;>cases a<;>cases b<;>rfl);rw[fD,hlen,w1,w2,aJ (show S.length - 1<S.length by omega),aJ (show S.length - 2<S.length by omega),aj,aj,hp S _ (by omega),hp S _ (by omega),fL,af (show(0:Int)<=0 by omega),af (show(0:Int)<=((S.length - 2:Nat):Int) by omega),af (show((S.length - 2:Nat):Int)<=(S.length:Int) by omega)];simp only[ae,ab,dd];rw[af (by simp only[aH,bh,an,ao];omega),ab,k8,List.map_take];rfl
 obtain⟨s',h1,h2,h3⟩:=key;have hl:s'.length=1:=by rw[h1,bh];exact h2
 rw[h3,show bj (0:Int) (length s')=true from aJ (i:=0) (by omega),ab];congr 1;show s'.getD 0 false=_;rw[h1,hp _ 0 (by omega)];rfl
def Js (c:Nat):Nat->Nat
 |0=>0
 |k+1=>c+256*Js c k
theorem Mn (a c m:Nat) (hc:c<256):a&&&(c+256*m)=(a%256&&&c)+256*(a/256&&&m):=by
 have h1:(a&&&(c+256*m))%2^8=a%2^8&&&(c+256*m)%2^8:=Nat.and_mod_two_pow;have h2:(a&&&(c+256*m))/2^8=a/2^8&&&(c+256*m)/2^8:=Nat.and_div_two_pow;have h3:(c+256*m)%2^8=c:=by omega
 have h4:(c+256*m)/2^8=m:=by omega
 rw[h3,show(2:Nat)^8=256 from rfl] at h1;rw[h4,show(2:Nat)^8=256 from rfl] at h2;omega
def zG (b:Nat):Nat:=(b/2&&&85)+(b&&&85)
def PB (b:Nat):Nat:=(b/4&&&51)+(b&&&51)
def aEm (b:Nat):Nat:=(b/16+b)&&&15
def La (b:Nat):Nat:=aEm (PB (zG b))
def Jt:Nat->Nat->List Nat
 |0,_=>[]
 |k+1,x=>x%256::Jt k (x/256)
def my:List Nat->Nat
 |[]=>0
 |b::r=>b+256*my r
theorem pt1:∀ (b:Fin 256) (v:Fin 2),((b.val/2+128*v.val)&&&85)=(b.val/2&&&85)/\zG b.val<=170:=by decide+kernel
theorem pt2:∀ (b:Fin 256) (v:Fin 4),((b.val/4+64*v.val)&&&51)=(b.val/4&&&51):=by decide+kernel
theorem pt4:∀ (b:Fin 256),PB (zG b.val)<=68/\PB (zG b.val)%16<=4/\PB (zG b.val)/16<=4/\La b.val<=8:=by decide+kernel
theorem pt3:∀ (u:Fin 73) (v:Fin 5),((u.val+16*v.val)&&&15)=(u.val&&&15):=by decide+kernel
def sw1 (k x:Nat):Nat:=(x/2&&&Js 85 k)+(x&&&Js 85 k)
def sw2 (k x:Nat):Nat:=(x/4&&&Js 51 k)+(x&&&Js 51 k)
def sw3 (k x:Nat):Nat:=(x/16+x)&&&Js 15 k
theorem aAx (k x:Nat):sw1 k x=my ((Jt k x).map zG):=by
 induction k generalizing x with
 |zero=>simp[sw1,Js,Jt,my]
 |succ k ih=>have e:=ih (x/256);unfold sw1 at e ⊢;simp only[Js,Jt,bq,my];rw[Mn _ _ _ (by omega),Mn _ _ _ (by omega),←e];have hx:x/2%256=x%256/2+128*(x/256%2):=(by omega);have hy:x/2/256=x/256/2:=(by omega);have h:=(pt1 ⟨x%256,by omega⟩ ⟨x/256%2,by omega⟩).1;simp only at h;rw[hx,hy,h];unfold zG;omega
theorem atJ (b:Nat) (r:List Nat) (h:b<256):my (b::r)/256=my r/\my (b::r)%256=b:=by simp only[my];omega
theorem atK:∀ (l:List Nat),(∀ b∈l,b<256)->sw2 l.length (my (l.map zG))=my (l.map λb=>PB (zG b))
 |[],_=>by simp[sw2,Js,my]
 |b::r,h=>by have hb:=h b (by simp);have e:=atK r λy hy=>h y (by simp[hy]);have h1:=(pt1 ⟨b,hb⟩ 0).2;simp only at h1;unfold sw2 at e ⊢;obtain⟨h2,h3⟩:=atJ (zG b) (r.map zG) (by omega);simp only[an,Js,bq];rw[Mn _ _ _ (by omega),Mn _ _ _ (by omega),h2,h3];have hy:my (zG b::List.map zG r)/4/256=my (List.map zG r)/4:=(by simp only[my];omega);have hx:my (zG b::List.map zG r)/4%256=zG b/4+64*(my (List.map zG r)%4):=(by simp only[my];omega);have t:=pt2 ⟨zG b,by omega⟩ ⟨my (List.map zG r)%4,by omega⟩;simp only at t;rw[hx,hy,t];simp only[my];rw[←e];unfold PB;omega
theorem atL:∀ (l:List Nat),(∀ b∈l,b<256)->sw3 l.length (my (l.map λb=>PB (zG b)))=my (l.map La)
 |[],_=>by simp[sw3,Js,my]
 |b::r,h=>by
  have hb:=h b (by simp);have hr:∀ y∈r,y<256:=λy hy=>h y (by simp[hy]);have e:=atL r hr;obtain⟨h1,h2,h3,h4⟩:=pt4 ⟨b,hb⟩;simp only at h1 h2 h3 h4;have hn:my (r.map λb=>PB (zG b))%16<=4:=by
   cases r with
   |nil=>simp[my]
   |cons d r=>have:=(pt4 ⟨d,hr d (by simp)⟩).2.1;simp only at this;simp only[bq,my];omega
  unfold sw3 at e ⊢;simp only[an,Js,bq,my];generalize my (r.map λb=>PB (zG b))=z at*;rw[Mn _ _ _ (by omega)];have hx:((PB (zG b)+256*z)/16+(PB (zG b)+256*z))%256=(PB (zG b)/16+PB (zG b))+16*(z%16):=by omega
  have hy:((PB (zG b)+256*z)/16+(PB (zG b)+256*z))/256=z/16+z:=(by omega);have t:=pt3 ⟨PB (zG b)/16+PB (zG b),by omega⟩ ⟨z%16,by omega⟩;simp only at t;rw[hx,hy,t,e];rfl
def N6:Nat->Nat->Nat
 |0,_=>0
 |k+1,x=>x%2+N6 k (x/2)
theorem atM:∀ b:Fin 256,La b.val=N6 8 b.val:=by decide+kernel
theorem Ak (n x:Nat):N6 (n+8) x=La (x%256)+N6 n (x/256):=by
 have h:=atM ⟨x%256,by omega⟩;simp only at h;rw[h];have e:x/2/2/2/2/2/2/2/2=x/256:=by omega
 simp only[N6,e];omega
theorem afx:∀ (k x:Nat),∀ b∈Jt k x,b<256
 |0,_,b,h=>by simp[Jt] at h
 |k+1,x,b,h=>by
  rcases aV.1 h with rfl |h
  ·omega
  exact afx k _ b h
theorem ada:∀ (k x:Nat),(Jt k x).length=k
 |0,_=>rfl
 |k+1,x=>by simp[Jt,ada k]
theorem KE (h:b<256):La b<=8:=(pt4 ⟨b,h⟩).2.2.2
def atN (x:Nat):Nat:=
 let x:=sw1 8 x
 let x:=sw2 8 x
 let x:=sw3 8 x
 let x:=x+x/256
 let x:=x+x/65536
 let x:=x+x/4294967296
 x%128
theorem atO (x:Nat):atN x=N6 64 x/\sw3 8 (sw2 8 (sw1 8 x))<1000000000000000000:=by
 have hl:=ada 8 x;have h:=afx 8 x;have e2:=atK (Jt 8 x) h;have e3:=atL (Jt 8 x) h;rw[hl] at e2 e3;unfold atN;simp only[aAx,e2,e3];have c:N6 64 x=La (x%256)+(La (x/256%256)+(La (x/256/256%256)+(La (x/256/256/256%256)+(La (x/256/256/256/256%256)+(La (x/256/256/256/256/256%256)+(La (x/256/256/256/256/256/256%256)+(La (x/256/256/256/256/256/256/256%256)+0))))))):=by rw[Ak 56,Ak 48,Ak 40,Ak 32,Ak 24,Ak 16,Ak 8,Ak 0,N6]
 rw[c];simp only[Jt,bq,od];have p0:=KE (b:=x%256) (by omega);have p1:=KE (b:=x/256%256) (by omega);have p2:=KE (b:=x/256/256%256) (by omega);have p3:=KE (b:=x/256/256/256%256) (by omega);have p4:=KE (b:=x/256/256/256/256%256) (by omega);have p5:=KE (b:=x/256/256/256/256/256%256) (by omega);have p6:=KE (b:=x/256/256/256/256/256/256%256) (by omega);have p7:=KE (b:=x/256/256/256/256/256/256/256%256) (by omega);generalize La (x%256)=c0 at*;generalize La (x/256%256)=c1 at*;generalize La (x/256/256%256)=c2 at*;generalize La (x/256/256/256%256)=c3 at*;generalize La (x/256/256/256/256%256)=c4 at*;generalize La (x/256/256/256/256/256%256)=c5 at*;generalize La (x/256/256/256/256/256/256%256)=c6 at*;generalize La (x/256/256/256/256/256/256/256%256)=c7 at*;clear c e2 e3 h hl;have f1:my [c0,c1,c2,c3,c4,c5,c6,c7]+my [c0,c1,c2,c3,c4,c5,c6,c7]/256=my [c0+c1,c1+c2,c2+c3,c3+c4,c4+c5,c5+c6,c6+c7,c7]:=by simp only[my];omega
 rw[f1];have f2:my [c0+c1,c1+c2,c2+c3,c3+c4,c4+c5,c5+c6,c6+c7,c7]+my [c0+c1,c1+c2,c2+c3,c3+c4,c4+c5,c5+c6,c6+c7,c7]/65536=my [c0+c1+(c2+c3),c1+c2+(c3+c4),c2+c3+(c4+c5),c3+c4+(c5+c6),c4+c5+(c6+c7),c5+c6+c7,c6+c7,c7]:=by simp only[my];omega
 rw[f2];have f3:my [c0+c1+(c2+c3),c1+c2+(c3+c4),c2+c3+(c4+c5),c3+c4+(c5+c6),c4+c5+(c6+c7),c5+c6+c7,c6+c7,c7]/4294967296=my [c4+c5+(c6+c7),c5+c6+c7,c6+c7,c7]:=by simp only[my];omega
 rw[f3];clear f1 f2 f3;simp only[my];constructor<;>omega
theorem atP {a b:Nat} (ha:a<18446744073709551616) (hb:b<18446744073709551616):wrap .u64 (BitVec.toNat (BitVec.ofInt (IntKind.bits .u64) (a:Int)&&&BitVec.ofInt (IntKind.bits .u64) (b:Int)))=((a&&&b:Nat):Int):=by show wrap .u64 (BitVec.toNat (BitVec.ofInt 64 (a:Int)&&&BitVec.ofInt 64 (b:Int)):Int)=_;rw[(bvU _).1,BitVec.toNat_and,na,na,oM,oM,mD ha,mD hb]
theorem apE (a k:Nat) (hk:k<=64):Int.fdiv (a:Int) (2^(min (toNat (k:Int)) (IntKind.bits .u64)))=((a/2^k:Nat):Int):=by
 have e:min (toNat (k:Int)) (IntKind.bits .u64)=k:=by rw[aj];exact kM hk
 rw[e,Int.fdiv_eq_ediv_of_nonneg _ (by exact Int.le_of_lt (Int.pow_pos (by omega)))];simp
theorem ahe {a b c:Nat} (h:b<c):(a&&&b)<c:=nO Nat.and_le_right h
theorem awg {N x:Nat} {k:Int->aa} (hx:x<18446744073709551616):qA N (x:Int) k=k ((N6 64 x:Nat):Int):=by
 have m1:Js 85 8=6148914691236517205:=by decide
 have m2:Js 51 8=3689348814741910323:=by decide
 have m3:Js 15 8=1085102592571150095:=by decide
 obtain⟨h1,h2⟩:=atO x;unfold atN at h1;simp only at h1;have b1:=@ahe (x/2) 6148914691236517205 6148914691236517206 (by omega);have b2:=@ahe x 6148914691236517205 6148914691236517206 (by omega);have d1:sw1 8 x=(x/2&&&6148914691236517205)+(x&&&6148914691236517205):=by unfold sw1;rw[m1]
 have d2:sw2 8 (sw1 8 x)=(sw1 8 x/4&&&3689348814741910323)+(sw1 8 x&&&3689348814741910323):=by unfold sw2;rw[m2]
 have d3:sw3 8 (sw2 8 (sw1 8 x))=(sw2 8 (sw1 8 x)/16+sw2 8 (sw1 8 x))&&&1085102592571150095:=by unfold sw3;rw[m3]
 generalize sw1 8 x=X1 at*;have b3:=@ahe (X1/4) 3689348814741910323 3689348814741910324 (by omega);have b4:=@ahe X1 3689348814741910323 3689348814741910324 (by omega);generalize sw2 8 X1=X2 at*;generalize sw3 8 X2=X3 at*;have e1:wrap .u64 (BitVec.toNat (BitVec.ofInt (IntKind.bits .u64) (x:Int)&&&BitVec.ofInt (IntKind.bits .u64) 6148914691236517205))=((x&&&6148914691236517205:Nat):Int):=atP (b:=6148914691236517205) hx (by omega);have e2:Int.fdiv (x:Int) (2^(min (toNat 1) (IntKind.bits .u64)))=((x/2:Nat):Int):=apE x 1 (by omega);have e3:wrap .u64 (BitVec.toNat (BitVec.ofInt (IntKind.bits .u64) ((x/2:Nat):Int)&&&BitVec.ofInt (IntKind.bits .u64) 6148914691236517205))=((x/2&&&6148914691236517205:Nat):Int):=atP (b:=6148914691236517205) (by omega) (by omega);have e4:wrap .u64 (((x/2&&&6148914691236517205:Nat):Int)+((x&&&6148914691236517205:Nat):Int))=(X1:Int):=by rw[←ly,←d1,ac9 (by omega)]
 have e5:wrap .u64 (BitVec.toNat (BitVec.ofInt (IntKind.bits .u64) (X1:Int)&&&BitVec.ofInt (IntKind.bits .u64) 3689348814741910323))=((X1&&&3689348814741910323:Nat):Int):=atP (b:=3689348814741910323) (by omega) (by omega);have e6:Int.fdiv (X1:Int) (2^(min (toNat 2) (IntKind.bits .u64)))=((X1/4:Nat):Int):=apE X1 2 (by omega);have e7:wrap .u64 (BitVec.toNat (BitVec.ofInt (IntKind.bits .u64) ((X1/4:Nat):Int)&&&BitVec.ofInt (IntKind.bits .u64) 3689348814741910323))=((X1/4&&&3689348814741910323:Nat):Int):=atP (b:=3689348814741910323) (by omega) (by omega);have e8:wrap .u64 (((X1/4&&&3689348814741910323:Nat):Int)+((X1&&&3689348814741910323:Nat):Int))=(X2:Int):=by rw[←ly,←d2,ac9 (by omega)]
 have e9:Int.fdiv (X2:Int) (2^(min (toNat 4) (IntKind.bits .u64)))=((X2/16:Nat):Int):=apE X2 4 (by omega);have e10:wrap .u64 (((X2/16:Nat):Int)+(X2:Int))=((X2/16+X2:Nat):Int):=by rw[←ly,ac9 (by omega)]
 have e11:wrap .u64 (BitVec.toNat (BitVec.ofInt (IntKind.bits .u64) ((X2/16+X2:Nat):Int)&&&BitVec.ofInt (IntKind.bits .u64) 1085102592571150095))=(X3:Int):=by rw[d3];exact atP (b:=1085102592571150095) (by omega) (by omega)
 have e12:Int.fdiv (X3:Int) (2^(min (toNat 8) (IntKind.bits .u64)))=((X3/256:Nat):Int):=apE X3 8 (by omega);have e13:wrap .u64 ((X3:Int)+((X3/256:Nat):Int))=((X3+X3/256:Nat):Int):=by rw[←ly,ac9 (by omega)]
 generalize hy:X3+X3/256=Y at*;have e14:Int.fdiv (Y:Int) (2^(min (toNat 16) (IntKind.bits .u64)))=((Y/65536:Nat):Int):=apE Y 16 (by omega);have e15:wrap .u64 ((Y:Int)+((Y/65536:Nat):Int))=((Y+Y/65536:Nat):Int):=by rw[←ly,ac9 (by omega)]
 generalize hz:Y+Y/65536=Z at*;have e16:Int.fdiv (Z:Int) (2^(min (toNat 32) (IntKind.bits .u64)))=((Z/4294967296:Nat):Int):=apE Z 32 (by omega);have e17:wrap .u64 ((Z:Int)+((Z/4294967296:Nat):Int))=((Z+Z/4294967296:Nat):Int):=by rw[←ly,ac9 (by omega)]
 generalize hw:Z+Z/4294967296=W at*;have e18:wrap .i64 (W:Int)=(W:Int):=iT;have e19:wrap .i64 (BitVec.toNat (BitVec.ofInt (IntKind.bits .i64) (W:Int)&&&BitVec.ofInt (IntKind.bits .i64) 127))=((W%128:Nat):Int):=by have q:(BitVec.ofInt 64 (W:Int)&&&BitVec.ofInt 64 127).toNat=W%128:=(by have aEn:BitVec.ofInt 64 127=BitVec.ofNat 64 127:=rfl;rw[BitVec.toNat_and,na,aEn,oM,oM,mD (by omega),mD (by omega)];exact Nat.and_two_pow_sub_one_eq_mod W 7);show wrap .i64 ((BitVec.ofInt 64 (W:Int)&&&BitVec.ofInt 64 127).toNat:Int)=_;rw[q,iT]
 unfold qA;simp only[af (show(0:Int)<=1 by omega),af (show(0:Int)<=2 by omega),af (show(0:Int)<=4 by omega),af (show(0:Int)<=8 by omega),af (show(0:Int)<=16 by omega),af (show(0:Int)<=32 by omega),ab,e1,e2,e3,e4,e5,e6,e7,e8,e9,e10,e11,e12,e13,e14,e15,e16,e17,e18,e19];rw[h1]
theorem ahf:∀ (k x:Nat),N6 k x<=k
 |0,_=>aR _
 |k+1,x=>by have:=ahf k (x/2);simp only[N6];omega
theorem aj':∀ (k x:Nat),N6 k x=k↔∀ m,m<k->x.testBit m=true
 |0,x=>⟨λ_ m h=>by omega,λ_=>rfl⟩
 |k+1,x=>by
  have ih:=aj' k (x/2);have hl:=ahf k (x/2);simp only[N6];constructor
  ·intro h m hm;cases m with
   |zero=>rw[Nat.testBit_zero,ax];omega
   |succ m=>rw[Nat.testBit_succ];exact ih.1 (by omega) m (by omega)
  intro h;have h0:=h 0 (by omega);rw[Nat.testBit_zero,ax] at h0;have:=ih.2 λm hm=>by have:=h (m+1) (by omega);rwa [Nat.testBit_succ] at this
  omega
theorem Tj (h:U64 R) (m:Fin 64):tW R m=R.toNat.testBit m.val:=by
 have e:(BitVec.ofInt 64 R).toNat=R.toNat:=by have:=ahd h;omega
 show(BitVec.ofInt 64 R).getLsbD m.val=_;rw[←e,BitVec.testBit_toNat]
theorem Tk {M x:Nat} {K:Int->aa} (hf:FK f=true) (hv:∀ m:Fin 64,awf f m=x.testBit m.val):∀ (d i n c:Nat),i+d=64->d<n->c<=i->lY (M+400) f n K (c:Int) (i:Int)=K ((c+N6 d (x/2^i):Nat):Int)
 |0,i,n,c,hi,hn,hc=>by obtain⟨n,rfl⟩:∃ j,n=j+1:=⟨n - 1,by omega⟩;unfold lY;rw[fD];rfl
 |d+1,i,n,c,hi,hn,hc=>by
  obtain⟨n,rfl⟩:∃ j,n=j+1:=⟨n - 1,by omega⟩;have hw1:wrap .i64 ((i:Int)+1)=((i+1:Nat):Int):=(by rw[iT];omega);have MC:wrap .i64 ((c:Int)+1)=((c+1:Nat):Int):=(by rw[iT];omega);have e2:x/2^i/2=x/2^(i+1):=(by rw[Nat.div_div_eq_div_mul,rE]);have hb:x.testBit i=decide (x/2^i%2=1):=Nat.testBit_eq_decide_div_mod_eq;unfold lY;rw[eZ,ab,atI hf ⟨i,by omega⟩,hv ⟨i,by omega⟩,hb,hw1,MC];simp only[N6,e2];by_cases h1:x/2^i%2=1
  ·rw[af h1,ab,Tk hf hv d (i+1) n (c+1) (by omega) (by omega) (by omega),h1];congr 2;omega
  rw[ak h1,ae,Tk hf hv d (i+1) n c (by omega) (by omega) (by omega)];congr 2;omega
theorem amx {M:Nat} {f:List Int} (hf:FK f=true):∃ (n:Nat) (b:Bool),n<=64/\(∀ k,wy (M+400) f k=k (n:Int))/\(∀ k,lZ (M+400) f k=k (n:Int))/\(∀ k,x9 (M+400) f k=k b)/\∀ k,r9 (M+400) f k=k b:=by
 obtain⟨R,hR,hS,hI⟩:=apD (M:=M) hf;have hRn:R=(R.toNat:Int):=by unfold U64 at hR;omega
 have hv:∀ m:Fin 64,awf f m=R.toNat.testBit m.val:=λm=>by unfold awf;rw[hS,←Tj hR];rfl
 have hc:∀ k,lZ (M+400) f k=k ((N6 64 R.toNat:Nat):Int):=λk=>by unfold lZ;have:=Tk (M:=M) (K:=k) hf hv 64 0 (M+400) 0 (by omega) (by omega) (by omega);simp only[Nat.pow_zero,Nat.div_one,aW] at this;exact this
 have gU:R.toNat<18446744073709551616:=by unfold U64 at hR;omega
 refine⟨N6 64 R.toNat,decide (N6 64 R.toNat=64),ahf _ _,λk=>?_,hc,λk=>?_,λk=>?_⟩
 ·unfold wy;rw[hI];simp only[ay,ae];have:=awg (N:=M+400) (k:=k) gU;rw[←hRn] at this;exact this
 ·unfold x9;rw[hI,ab];refine bB k ?_;rw[b9,bY,ax,aj'];have hn:=V6 R;constructor
  ·intro h m hm;have:=congrFun hn.2 ⟨m,hm⟩;rw[h] at this;have h0:tW 0 ⟨m,hm⟩=false:=by show(BitVec.ofInt 64 0).getLsbD m=false;rw[show BitVec.ofInt 64 0=0#64 from rfl,BitVec.getLsbD_zero]
   rw[h0,Tj hR] at this;simpa using this.symm
  intro h;refine afw hn.1 ⟨by omega,by omega⟩ (hn.2.trans ?_);funext m;have h0:tW 0 m=false:=by show(BitVec.ofInt 64 0).getLsbD m.val=false;rw[show BitVec.ofInt 64 0=0#64 from rfl,BitVec.getLsbD_zero]
  rw[h0,Tj hR,h m.val m.isLt];rfl
 unfold r9;rw[hc];refine bB k ?_;rw[b9,bY,ax];omega
theorem awh (hN:2000<N):∃ (r:List Int) (b:Bool),(b=true->FK r=true)/\(∀ kf,gn N s kf=kf r b)/\∀ kf,jV N s kf=kf r b:=by
 by_cases h:∃ t,atp s t
 ·obtain⟨t,ht⟩:=h;exact⟨KC t,true,λ_=>ht.2.1,λkf=>aj1 ht (by omega),λkf=>aj2 ht (by omega)⟩
 exact⟨[],false,λh=>(by cases h),λkf=>ams (λt ht=>h ⟨t,ht⟩) hN,λkf=>amt (λt ht=>h ⟨t,ht⟩) hN⟩
theorem apF {M:Nat} (hM:2000<M) (w v:ByteArray):∃ s:ByteArray,(∀ k,ju (M+400) [w,v] k=k s)/\∀ k:ByteArray->aa,(gn (M+400) v λr b=>bif !b then k gQ else bif ByteArray.toList w==ByteArray.toList A5 then lZ (M+400) r (λn=>cr (M+400) n k)else r9 (M+400) r (λb=>pM (M+400) b k))=k s:=by
 obtain⟨r,b,hb,hS,hI⟩:=awh (N:=M+400) (s:=v) (by omega);have Nn:∀ k,ju (M+400) [w,v] k=jV (M+400) v λr b=>bif !b then k gQ else bif ByteArray.toList w==ByteArray.toList A5 then wy (M+400) r (λn=>cS (M+400) n k)else x9 (M+400) r (λb=>El (M+400) b k):=λk=>by have g1:getD [w,v] (toNat 1) ByteArray.empty=v:=rfl;have g0:getD [w,v] (toNat 0) ByteArray.empty=w:=rfl;have i1:bj 1 (length [w,v])=true:=rfl;have i0:bj 0 (length [w,v])=true:=rfl;have l2:((length [w,v]:Int) != 2)=false:=rfl;unfold ju;simp only[g1,g0,i1,i0,l2,ab,ae]
 generalize (ByteArray.toList w==ByteArray.toList A5)=W at Nn ⊢;cases b with
 |false=>
 refine⟨gQ,λk=>?_,λk=>?_⟩
 ·rw[Nn,hI];rfl
 rw[hS];rfl
 |true=>
 obtain⟨n,t,hn,h1,h2,h3,h4⟩:=amx (M:=M) (hb rfl);have h64:Pp (n:Int):=⟨by omega,by omega⟩;refine⟨bif W then rp (n:Int)else bif t then arw else abO,λk=>?_,λk=>?_⟩
 ·rw[Nn,hI];rw[ay,ae,h1,h3,fB h64];unfold El;cases W<;>cases t<;>rfl
 rw[hS];rw[ay,ae,h2,h4,eX h64 (by omega)];unfold pM;cases W<;>cases t<;>rfl
section
variable {M:Nat} {c:cK} {line:ByteArray}
theorem adb (w:ByteArray) (r:List ByteArray):getD (w::r) (toNat 0) ByteArray.empty=w/\bj 0 (length (w::r))=true/\((length (w::r):Int)==0)=false/\List.drop (toNat 1) (List.take (toNat (length (w::r):Int)) (w::r))=r/\(decide ((0:Int)<=1)&&decide (1<=(length (w::r):Int))&&decide ((length (w::r):Int)<=(length (w::r):Int)))=true:=by
 refine⟨rfl,aJ (i:=0) (by simp),bP.2 (by simp only[an];omega),?_,?_⟩
 ·rw[aj,kh];rfl
 simp only[an,ai,ax];omega
theorem aAy (hM:1048600<M) (hO:cZ c (M+400)) (w:ByteArray) (r:List ByteArray) (hl:r.length<=1048577) (k:cK->ByteArray->aa):sM (M+400) c k (w::r)=bif okA r then Hd (M+400) c w (Nd r) k else k c gQ:=by
 obtain⟨g0,i0,l0,dl,d1⟩:=adb w r;unfold sM;rw[d1,ab,dl,apA (A:=k c gQ) (by omega) (by omega) (by omega) (λz=>by
  simp only[bD,ab]
  rw[dS hO])]
 cases okA r with
 |false=>rfl
 |true=>
 simp only[ay,ae,ab,i0,g0];unfold Hd;congr 1;funext q;cases decide (q.1>0) with
 |true=>rfl
 |false=>
 simp only[ae];by_cases l0:(Nd r).length=0
 ·have b0:((length (Nd r):Int)==0)=true:=bY.2 (by omega);simp only[b0,ab];rfl
 have b0:((length (Nd r):Int)==0)=false:=bP.2 (by omega);simp only[b0,ae];by_cases l1:(Nd r).length=1
 ·have b1:((length (Nd r):Int)==1)=true:=bY.2 (by omega);have i1:bj 0 (length (Nd r))=true:=aJ (i:=0) (by omega);simp only[b1,i1,ab];rfl
 have b1:((length (Nd r):Int)==1)=false:=bP.2 (by omega);simp only[b1,ae]
theorem atQ (hM:1048600<M) (hO:cZ c (M+400)) (hs:line.size<=200) {w:ByteArray} {r:List ByteArray} (hw:PA line=w::r) (k:cK->ByteArray->aa):lq (M+400) c line k=bif decide (r.length=1)&&(AJ w ID||AJ w A5)then(gn (M+400) (r.getD 0 ByteArray.empty) λr b=>bif !b then k c gQ else bif ByteArray.toList w==ByteArray.toList A5 then lZ (M+400) r (λn=>cr (M+400) n (k c))else r9 (M+400) r (λb=>pM (M+400) b (k c)))else bif okA r then Hd (M+400) c w (Nd r) k else k c gQ:=by
 obtain⟨g0,i0,l0,dl,d1⟩:=adb w r;have hl:=ac6 line;rw[hw,an] at hl;have e:∀ s,(ByteArray.toList w==ByteArray.toList s)=AJ w s:=λs=>rfl;have hj:=aAy hM hO w r (by omega) k;unfold lq;rw[Ti (by omega) (by omega),hw];simp only[l0,ae,ak (show ¬(ByteArray.size line:Int)>200 by omega),i0,g0,ab,hj,e,dS hO];by_cases h1:r.length=1
 ·have b2:((length (w::r):Int)==2)=true:=bY.2 (by rw[an];omega);have i1:bj 1 (length (w::r))=true:=aJ (i:=1) (by rw[an];omega);have g1:getD (w::r) (toNat 1) ByteArray.empty=r.getD 0 ByteArray.empty:=rfl;simp only[b2,i1,g1,ab,af h1,aB];cases AJ w ID<;>cases AJ w A5<;>rfl
 have b2:((length (w::r):Int)==2)=false:=bP.2 (by rw[an];omega);simp only[b2,ae,ak h1,fE]
theorem amy (w:ByteArray) (r:List ByteArray) (h:r.length≠1) (k:ByteArray->aa):ju (M+400) (w::r) k=k gQ:=by have b:((length (w::r):Int) != 2)=true:=qU.2 (by rw[an];omega);unfold ju;rw[b,ab]
end
end Go.Pv.R
namespace Go.Pv.R
open List Int IntKind
structure PC (c:cK) (M:Nat):Prop where
 ev:Z8 c (M+400)
 te:∀ x∈c.1,S5 x
 tn:c.1.length<=1048576/\c.1.length+20<M+400
 ro:∀ x∈c.2.2.1,Pp x.1/\Pp x.2
 rn:c.2.2.1.length+20<M+400
 se:∀ x∈c.2.2.2.1,Pp x
 bn:c.2.2.2.2.1.length+20<M+400
 pl:Pp c.2.2.2.2.2.2
theorem atS {c:cK} {M:Nat} (hw:wf pG c) (hb:aQ pG c<=1048576) (hM:2*aQ pG c+300<M):PC c M:=by have hs:=M7 c;have h1:=cC (t:=lG) c.1;have h3:=cC (t:=dt) c.2.2.1;have h5:=cC (t:=vo) c.2.2.2.2.1;exact⟨av6 hw hb (by omega),λx hx=>aAg (hw.1.2 x hx),by omega,λx hx=>⟨S4 (hw.2.2.1.2 x hx).1,S4 (hw.2.2.1.2 x hx).2⟩,by omega,avX hw.2.2.2.1,by omega,S4 hw.2.2.2.2.2.2⟩
theorem aAz {t:List bC} (te:∀ x∈t,S5 x):(∀ x∈zE t,Pp x)/\(zE t).length<=10:=by
 unfold zE;cases h:bG t with
 |false=>exact⟨λx hx=>(by cases hx),by simp⟩
 |true=>refine⟨λx hx=>by obtain⟨y,hy,rfl⟩:=cv.1 hx;exact(te y (Yg.1 hy)).h1,?_⟩;rw[ab,bh,Mi];unfold bG at h;simp only[ai,ax] at h;exact h.1
theorem ayc {c:cK} {N:Nat} (h:cZ c N):∀ x∈dG c,Pp x:=λx hx=>by have:=Yl hx;have hj:=h.bl;unfold Pp;omega
section
variable {M:Nat} {c:cK}
theorem amz (W:PC c M):ahb (gY (M+400) c qh []) (eC (M+400) c qh):=by
 have hO:=W.ev.ok;obtain⟨g1,g2⟩:=aAz W.te;obtain⟨q1,q2⟩:=W.tn;refine⟨Kx (Zs (zE c.1)),λk=>?_,λk=>?_⟩
 ·have e:gY (M+400) c qh [] k=so (M+400) c.1 λl=>gL (M+400) l k:=(by kernel_rfl);rw[e,EK hO.tl hO.tm hO.tN (by omega),vw g1 (by omega) (by omega)]
 have e:eC (M+400) c qh k=va (M+400) c.1 λl=>gK (M+400) l k:=by kernel_rfl
 rw[e,Mj hO.tl hO.tm (by omega),vu g1 (by omega) (by omega)]
theorem amA (W:PC c M):ahb (gY (M+400) c A8 []) (eC (M+400) c A8):=by
 obtain⟨h1,h2⟩:=W.tn;refine⟨Kx (S6 c.1),λk=>?_,λk=>?_⟩
 ·have e:gY (M+400) c A8 [] k=tx (M+400) c.1 k:=(by kernel_rfl);rw[e,Q1 W.te (by omega) (by omega)]
 have e:eC (M+400) c A8 k=tq (M+400) c.1 k:=by kernel_rfl
 rw[e,Q0 W.te (by omega) (by omega)]
theorem amB (W:PC c M):ahb (gY (M+400) c A9 []) (eC (M+400) c A9):=by
 have g1:=W.ev.ok.rl;have g4:=W.rn;refine⟨Kx (S7 c.2.2.2.1 c.2.2.1),λk=>?_,λk=>?_⟩
 ·have e:gY (M+400) c A9 [] k=tz (M+400) c.2.2.1 c.2.2.2.1 k:=(by kernel_rfl);rw[e,Q3 W.se W.ro (by omega) (by omega)]
 have e:eC (M+400) c A9 k=tr (M+400) c.2.2.1 c.2.2.2.1 k:=by kernel_rfl
 rw[e,Q2 W.se W.ro (by omega) (by omega)]
theorem apG (W:PC c M):ahb (gY (M+400) c s7 []) (eC (M+400) c s7):=by
 have hO:=W.ev.ok;have hl:=aff c;have h10:=W.bn;have hbl:=W.ev.ok.bl;refine⟨Kx (Zs (dG c)),λk=>?_,λk=>?_⟩
 ·have e:gY (M+400) c s7 [] k=pJ (M+400) c λl=>gL (M+400) l k:=(by kernel_rfl);rw[e,yX hO,vw (ayc hO) (by omega) (by omega)]
 have e:eC (M+400) c s7 k=rv (M+400) c λl=>gK (M+400) l k:=by kernel_rfl
 rw[e,yW hO,vu (ayc hO) (by omega) (by omega)]
theorem apH (W:PC c M):ahb (gY (M+400) c Ba []) (eC (M+400) c Ba):=by
 have hO:=W.ev.ok;have hn:=atd hO W.pl;refine⟨Kx (Zs [(length c.1:Int),(length c.2.1:Int),(length c.2.2.1:Int),(length (dG c):Int),c.2.2.2.2.2.2,(length c.2.2.2.2.2.1:Int)]),λk=>?_,λk=>?_⟩
 ·have e:gY (M+400) c Ba [] k=yU (M+400) c k:=(by kernel_rfl);rw[e,show yU (M+400) c k=pJ (M+400) c _ from rfl,yX hO,vw hn (by simp) (by simp only[an,ao];omega)]
 have e:eC (M+400) c Ba k=yQ (M+400) c k:=by unfold eC;exact(cf (by kernel_rfl)).trans ((cf (by kernel_rfl)).trans ((cf (by kernel_rfl)).trans ((cf (by kernel_rfl)).trans (ct (by kernel_rfl)))))
 rw[e];unfold yQ;rw[yW hO,vu hn (by simp) (by simp only[an,ao];omega)]
theorem amC (W:PC c M):ahb (gY (M+400) c E4 []) (eC (M+400) c E4):=by
 have hO:=W.ev.ok;obtain⟨s,h1,h2⟩:=ag0 hO;refine⟨bif !(ByteArray.toList s==ByteArray.toList HI)then s else OH,λk=>?_,λk=>?_⟩
 ·have e:gY (M+400) c E4 [] k=BI (M+400) c λs=>bif !(ByteArray.toList s==ByteArray.toList HI)then k s else k OH:=(by kernel_rfl);rw[e,h2];cases (!(ByteArray.toList s==ByteArray.toList HI))<;>rfl
 have e:eC (M+400) c E4 k=Br (M+400) c λs=>bif !(ByteArray.toList s==ByteArray.toList HI)then k s else k OH:=by kernel_rfl
 rw[e,h1];cases (!(ByteArray.toList s==ByteArray.toList HI))<;>rfl
def atT (c:cK) (F G:(cK->ByteArray->aa)->aa):Prop:=∃ (x:cK) (s:ByteArray),(x=c∨gu x=true)/\(∀ k,F k=k x s)/\∀ k,G k=k x s
def NM (N:Nat) (c:cK) (w:ByteArray) (n:List Int) (kf:cK->ByteArray->aa):aa:=
 IU N w λr=>bif r != (length n:Int)then bU N c (λx=>kf x gQ)else
  jx N c w n (λ_ _=>bU N c (λx=>gY N c w n (kf x))) λy ok=>bif !ok then bU N c (λx=>kf x abO)else kf y OH
theorem amD {w:ByteArray} {n:List Int} (hO:cZ c (M+400)) (h:Li w≠(n.length:Int)):atT c (NM (M+400) c w n) (Hd (M+400) c w n):=by refine⟨c,gQ,.inl rfl,λk=>?_,λk=>ac7 hO h⟩;unfold NM;rw[yi,qU.2 h,ab,dm hO]
theorem afy (hM:0<M) (e:QL) {w:ByteArray} {n:List Int} {F:(cK->Bool->aa)->aa} (W:PC c M) (ha:Li w=(n.length:Int)) (he:decide (e.1>0)=true) (h1:∀ k k',jx (M+400) c w n k k'=F k') (h2:∀ k,jd (M+400) w n k=k e) (hF:Z8 c (M+400)->∀ k,F k=k (nZ c e).1 (nZ c e).2):atT c (NM (M+400) c w n) (Hd (M+400) c w n):=by
 have hE:=W.ev;have eI:∀ kf,NM (M+400) c w n kf=bif !(nZ c e).2 then kf c abO else kf (nZ c e).1 OH:=λkf=>by unfold NM;rw[yi,ha,aZ,ae,h1,hF hE];show(bif !(nZ c e).2 then bU (M+400) c (λx=>kf x abO)else kf (nZ c e).1 OH)=_;rw[dm hE.ok]
 have eS:∀ kf,Hd (M+400) c w n kf=bif !(nZ c e).2 then kf c abO else kf (nZ c e).1 OH:=λkf=>by unfold Hd;rw[h2,he,ab,Tg hE];unfold HV;rw[dS hE.ok]
 rcases ajX c e with⟨h3,h4⟩ |⟨h3,h4⟩
 ·exact⟨c,abO,.inl rfl,λk=>by rw[eI,h4];rfl,λk=>by rw[eS,h4];rfl⟩
 exact⟨(nZ c e).1,OH,.inr h3,λk=>by rw[eI,h4];rfl,λk=>by rw[eS,h4];rfl⟩
theorem V7 {w:ByteArray} {n:List Int} (W:PC c M) (ha:Li w=(n.length:Int)) (h1:∀ k k',jx (M+400) c w n k k'=k c false) (h2:∃ G:(ByteArray->aa)->aa,(∀ k,Hd (M+400) c w n k=bX (M+400) c λx=>G (k x))/\ahb (gY (M+400) c w n) G):atT c (NM (M+400) c w n) (Hd (M+400) c w n):=by
 have hO:=W.ev.ok;obtain⟨G,h2,s,h3,h4⟩:=h2;refine⟨c,s,.inl rfl,λk=>?_,λk=>?_⟩
 ·unfold NM;rw[yi,ha,aZ,ae,h1];show bU (M+400) c (λx=>gY (M+400) c w n (k x))=_;rw[dm hO,h3]
 rw[h2,dS hO,h4]
theorem BX {w:ByteArray} {n:List Int} (h:(ByteArray.toList w==ByteArray.toList LL)=false/\(ByteArray.toList w==ByteArray.toList KX)=false/\(ByteArray.toList w==ByteArray.toList yL)=false/\(ByteArray.toList w==ByteArray.toList OG)=false/\(ByteArray.toList w==ByteArray.toList A6)=false/\(ByteArray.toList w==ByteArray.toList Kf)=false/\(ByteArray.toList w==ByteArray.toList E3)=false) (k k':cK->Bool->aa):jx (M+400) c w n k k'=k c false:=by unfold jx;obtain⟨h0,h1,h2,h3,h4,h5,h6⟩:=h;rw[h0,h1,h2,h3,h4,h5,h6];rfl
theorem aEo (k:cK->ByteArray->aa):NM (M+400) c LL [] k=k av8 OH:=by kernel_rfl
theorem amE (hM:0<M) (w:ByteArray) (n:List Int) (W:PC c M):atT c (NM (M+400) c w n) (Hd (M+400) c w n):=by
 have hE:=W.ev
 by_cases ha:Li w=(n.length:Int)
 rotate_left
 ·exact amD hE.ok ha
 obtain⟨c0,c1,c2,c3,c4⟩:=atw w
 match n,ha with
 |[],ha=>
  have h0:=c0 ha
  unfold aj4 at h0
  simp only[bo] at h0
  rcases h0 with h |h |h |h |h |h |h |h |h |h |h
  ·obtain rfl:=uD h
   exact⟨av8,OH,.inr (by decide+kernel),aEo,atE⟩
  ·obtain rfl:=uD h
   exact afy hM (3,(0,(0,0))) W ha rfl (λk k'=>by unfold jx;exact(cf (by kernel_rfl)).trans ((cf (by kernel_rfl)).trans ((cf (by kernel_rfl)).trans (ct (by kernel_rfl))))) (λk=>by kernel_rfl) λhE k=>aDg hE
  ·obtain rfl:=uD h
   exact afy hM (5,(0,(0,0))) W ha rfl (λk k'=>by unfold jx;exact(cf (by kernel_rfl)).trans ((cf (by kernel_rfl)).trans ((cf (by kernel_rfl)).trans ((cf (by kernel_rfl)).trans ((cf (by kernel_rfl)).trans (ct (by kernel_rfl))))))) (λk=>by kernel_rfl) λhE k=>aAq hE
  ·obtain rfl:=uD h
   exact V7 W ha (BX ⟨by kernel_rfl,by kernel_rfl,by kernel_rfl,by kernel_rfl,by kernel_rfl,by kernel_rfl,by kernel_rfl⟩) ⟨_,FL (λk=>by kernel_rfl) (by kernel_rfl),amz W⟩
  ·obtain rfl:=uD h
   exact V7 W ha (BX ⟨by kernel_rfl,by kernel_rfl,by kernel_rfl,by kernel_rfl,by kernel_rfl,by kernel_rfl,by kernel_rfl⟩) ⟨_,FL (λk=>by kernel_rfl) (by kernel_rfl),amA W⟩
  ·obtain rfl:=uD h
   exact V7 W ha (BX ⟨by kernel_rfl,by kernel_rfl,by kernel_rfl,by kernel_rfl,by kernel_rfl,by kernel_rfl,by kernel_rfl⟩) ⟨_,FL (λk=>by kernel_rfl) (by kernel_rfl),amB W⟩
  ·obtain rfl:=uD h
   exact V7 W ha (BX ⟨by kernel_rfl,by kernel_rfl,by kernel_rfl,by kernel_rfl,by kernel_rfl,by kernel_rfl,by kernel_rfl⟩) ⟨_,FL (λk=>by kernel_rfl) (by kernel_rfl),apG W⟩
  ·obtain rfl:=uD h
   exact V7 W ha (BX ⟨by kernel_rfl,by kernel_rfl,by kernel_rfl,by kernel_rfl,by kernel_rfl,by kernel_rfl,by kernel_rfl⟩) ⟨_,FL (λk=>by kernel_rfl) (by kernel_rfl),apH W⟩
  ·obtain rfl:=uD h
   exact V7 W ha (BX ⟨by kernel_rfl,by kernel_rfl,by kernel_rfl,by kernel_rfl,by kernel_rfl,by kernel_rfl,by kernel_rfl⟩) ⟨_,FL (λk=>by kernel_rfl) (by kernel_rfl),amC W⟩
  ·obtain rfl:=uD h
   exact V7 W ha (BX ⟨by kernel_rfl,by kernel_rfl,by kernel_rfl,by kernel_rfl,by kernel_rfl,by kernel_rfl,by kernel_rfl⟩) ⟨_,FL (λk=>by kernel_rfl) (by kernel_rfl),amv⟩
  ·obtain rfl:=uD h
   exact V7 W ha (BX ⟨by kernel_rfl,by kernel_rfl,by kernel_rfl,by kernel_rfl,by kernel_rfl,by kernel_rfl,by kernel_rfl⟩) ⟨_,FL (λk=>by kernel_rfl) (by kernel_rfl),atu⟩
 |[a],ha=>
  have h1:=c1 ha
  simp only[bo] at h1
  rcases h1 with h |h
  ·obtain rfl:=uD h
   exact afy hM (6,(a,(0,0))) W ha rfl (λk k'=>by unfold jx;exact(cf (by kernel_rfl)).trans ((cf (by kernel_rfl)).trans ((cf (by kernel_rfl)).trans ((cf (by kernel_rfl)).trans ((cf (by kernel_rfl)).trans ((cf (by kernel_rfl)).trans (ct (by kernel_rfl)))))))) (λk=>by kernel_rfl) λhE k=>aAr hE
  ·obtain rfl:=uD h
   refine V7 W ha (BX ⟨by kernel_rfl,by kernel_rfl,by kernel_rfl,by kernel_rfl,by kernel_rfl,by kernel_rfl,by kernel_rfl⟩) ⟨λk=>tR (M+400) Z9 a (λb=>pM (M+400) b k),λk=>?_,abO,λk=>?_,λk=>(aog a _).2⟩
   ·unfold Hd
    have e:∀ k,jd (M+400) Kg [a] k=k (0,(0,(0,0))):=λk=>by kernel_rfl
    rw[e,ct (a:=Kg) (b:=Kg) (by kernel_rfl)]
    rfl
   ·unfold gY
    refine((cf (by kernel_rfl)).trans ((cf (by kernel_rfl)).trans ((cf (by kernel_rfl)).trans ((cf (by kernel_rfl)).trans ((cf (by kernel_rfl)).trans ((cf (by kernel_rfl)).trans ((cf (by kernel_rfl)).trans (ct (by kernel_rfl))))))))).trans ?_
    unfold ov
    exact(aEl a λx=>Ae (M+400) Z9 x λb=>El (M+400) b k).trans (aog a _).1
 |[a,b],ha=>
  have h1:=c2 ha
  simp only[bo] at h1
  rcases h1 with h |h
  ·obtain rfl:=uD h
   exact afy hM (1,(a,(b,0))) W ha rfl (λk k'=>by unfold jx;exact(cf (by kernel_rfl)).trans (ct (by kernel_rfl))) (λk=>by kernel_rfl) λhE k=>aDf hE
  ·obtain rfl:=uD h
   exact afy hM (2,(a,(b,0))) W ha rfl (λk k'=>by unfold jx;exact(cf (by kernel_rfl)).trans ((cf (by kernel_rfl)).trans (ct (by kernel_rfl)))) (λk=>by kernel_rfl) λhE k=>aAp hE
 |[a,b,d],ha=>
  obtain rfl:=uD (c3 ha)
  exact afy hM (4,(b,(d,a))) W ha rfl (λk k'=>by unfold jx;exact(cf (by kernel_rfl)).trans ((cf (by kernel_rfl)).trans ((cf (by kernel_rfl)).trans ((cf (by kernel_rfl)).trans (ct (by kernel_rfl)))))) (λk=>by kernel_rfl) λhE k=>av' hE
 |a::b::d::e::n,ha=>
  simp only[an] at ha
  omega
end
end Go.Pv.R
namespace Go.Pv.R
open List Int IntKind
section
variable {M:Nat} {c:cK} {line:ByteArray}
theorem apI (hM:1048600<M) (hO:cZ c (M+400)) (hs:line.size<=200) {w:ByteArray} {r:List ByteArray} (hw:PA line=w::r) (k:cK->ByteArray->aa):lx (M+400) c line k=bif AJ w ID||AJ w A5 then ju (M+400) (w::r) (k c)else bif okA r then NM (M+400) c w (Nd r) k else k c gQ:=by
 obtain⟨g0,i0,l0,dl,d1⟩:=adb w r;have hl:=ac6 line;rw[hw,an] at hl;have hwl:wrap .i64 ((length (w::r):Int) - 1)=(length r:Int):=by rw[an,iT];omega
 have e:∀ s,(ByteArray.toList w==ByteArray.toList s)=AJ w s:=λs=>rfl;have hn:(length (Nd r):Int)=(length r:Int):=by unfold Nd;rw[bh]
 unfold lx;rw[Th (by omega) (by omega),hw];simp only[ak (show ¬(ByteArray.size line:Int)>200 by omega),ae,l0,i0,g0,ab,e,hwl,d1,dl,dm hO,yi,apz hO (show 40<M+400 by omega) (show r.length<=2000001 by omega) (show r.length<M+400 by omega)];unfold NM;simp only[yi,dm hO,hn];cases AJ w ID<;>cases AJ w A5<;>cases (Li w != (length r:Int))<;>cases okA r<;>rfl
theorem apJ (hM:1048600<M) (W:PC c M) (hs:line.size<=1048576):atT c (lx (M+400) c line) (lq (M+400) c line):=by
 have hO:=W.ev.ok
 by_cases av5:line.size<=200
 rotate_left
 ·refine⟨c,gQ,.inl rfl,λk=>?_,λk=>?_⟩
  ·unfold lx
   rw[Th (by omega) (by omega)]
   simp only[af (show(ByteArray.size line:Int)>200 by omega),ab,dm hO]
  ·unfold lq
   rw[Ti (by omega) (by omega)]
   simp only[af (show(ByteArray.size line:Int)>200 by omega),ab,dS hO]
   cases ((length (PA line):Int)==0)<;>rfl
 cases hw:PA line with
 |nil=>
  refine⟨c,gQ,.inl rfl,λk=>?_,λk=>?_⟩
  ·unfold lx
   rw[Th (by omega) (by omega),hw]
   simp only[dm hO]
   cases decide ((ByteArray.size line:Int)>200)<;>rfl
  ·unfold lq
   rw[Ti (by omega) (by omega),hw]
   simp only[dS hO]
   rfl
 |cons w r=>
  have eI:=apI hM hO av5 hw
  have eS:=atQ hM hO av5 hw
  cases hf:(AJ w ID||AJ w A5) with
  |true=>
   simp only[hf,ab,dd] at eI eS
   by_cases h1:r.length=1
   ·obtain⟨v,rfl⟩:∃ v,r=[v]:=by
     match r,h1 with
     |[v],_=>exact⟨v,rfl⟩
    obtain⟨s,f1,f2⟩:=apF (M:=M) (by omega) w v
    refine⟨c,s,.inl rfl,λk=>?_,λk=>?_⟩
    ·rw[eI,f1]
    ·rw[eS,af h1,ab]
     exact f2 (k c)
   ·have ha:Li w≠((Nd r).length:Int):=by
     simp only[bo] at hf
     have:Li w=-1:=by
      rcases hf with h |h
      ·rw[uD h];decide+kernel
      ·rw[uD h];decide+kernel
     omega
    refine⟨c,gQ,.inl rfl,λk=>?_,λk=>?_⟩
    ·rw[eI,amy w r h1]
    ·rw[eS,ak h1,ae]
     cases okA r with
     |false=>rfl
     |true=>rw[ab,ac7 hO ha]
  |false=>
   simp only[hf,ae,ee] at eI eS
   cases ho:okA r with
   |false=>
    simp only[ho,ae] at eI eS
    exact⟨c,gQ,.inl rfl,eI,eS⟩
   |true=>
    simp only[ho,ab] at eI eS
    obtain⟨x,s,h1,h2,h3⟩:=amE (M:=M) (c:=c) (by omega) w (Nd r) W
    exact⟨x,s,h1,λk=>(eI k).trans (h2 k),λk=>(eS k).trans (h3 k)⟩
end
end Go.Pv.R
namespace Go.Pv.R
open List Int IntKind
theorem N7 (c:cK) (s:ByteArray) (h:wfs [pG,.str] (c,s,())):∃ N,∀ kf,L3 N c s kf=kf true:=by
 obtain⟨M,hM⟩:∃ M,M=2*aQ pG c+1100000:=⟨_,rfl⟩
 refine⟨M+400,λkf=>?_⟩
 have hw:wf pG c:=h.1
 unfold L3 az7
 by_cases hs:s.size<=1048576
 rotate_left
 ·rw[eZ];rfl
 rw[fD,ae,acv hw (by omega) (by omega) (by omega)]
 refine asX (by omega) λhb=>?_
 obtain⟨r,t,hr,hI,hS⟩:=apJ (by omega) (atS hw (by omega) (M:=M) (by omega)) hs
 have hsr:aQ pG r<=max (aQ pG c) 2000:=by
  rcases hr with rfl |hr
  ·omega
  ·have:=(ajW hr).szC
   omega
 have h1:∀ k,z' (M+400) c k=k c:=λk=>acz (by omega) (by omega)
 have mc:=Ut pG c 1 (by decide)
 have mr:=Ut pG r 1 (by decide)
 have e1:decide ((lU pG c 1).2<0)=false:=fD
 have h2:∀ k,wE (M+400) c c k=k true:=λk=>Pc (by omega) (by omega)
 have h3:∀ k,wE (M+400) r r k=k true:=λk=>Pc (by omega) (by omega)
 have h4:∀ k,sq (M+400) c 1 k=k (lU pG c 1).2 (lU pG c 1).1:=λk=>Mb (by omega) (by omega) (by omega) (by omega)
 have h5:∀ k,sq (M+400) r 1 k=k (lU pG r 1).2 (lU pG r 1).1:=λk=>Mb (by omega) (by omega) (by omega) (by omega)
 have h6:∀ k,vf (M+400) (lU pG r 1).1 1 k=k (lU pG r 1).2:=λk=>X4 (by omega) (by omega) (by omega) (by omega)
 have e2:decide ((lU pG r 1).2<0)=false:=fD
 have he:((lU pG r 1).1.1,((lU pG r 1).1.2.1,((lU pG r 1).1.2.2.1,((lU pG r 1).1.2.2.2.1,((lU pG r 1).1.2.2.2.2.1,((lU pG r 1).1.2.2.2.2.2.1,r.2.2.2.2.2.2))))))=(lU pG r 1).1:=rfl
 simp only[h1,hS,hI,h2,h3,h4,h5,he,h6,e1,e2,ay,ae,aZ,ld]
end Go.Pv.R
