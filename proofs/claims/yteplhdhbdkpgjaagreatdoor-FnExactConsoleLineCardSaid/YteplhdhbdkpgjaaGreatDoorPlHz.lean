/- What the harness' functions answer. -/
import Derived.Test.YteplhdhbdkpgjaaGreatDoorPlLst
set_option linter.unusedSimpArgs false
set_option linter.unusedVariables false
namespace Go.Pv
open List Int IntKind
abbrev ay:= @Bool.not_true
abbrev dW:= @Eq.trans
abbrev aZ:= @bne_self_eq_false
end Go.Pv
namespace Go.Pv.R
open List Int IntKind
theorem Ja {x:az } {N:Nat} {left:Int} {kf:Int->aa} (hw:wf (.sl (.int .i64)) x) (hN:aQ (.sl (.int .i64)) x<N) (h0:0<=left) (h1:left<=1048576):zX N x left kf=kf (G3 left (aQ (.sl (.int .i64)) x)):=by
 have hl:=XK hw;have hm:=aT;have hs:=cC (t:=(.int .i64)) x;unfold zX;rw[iT];rw[xW (t:=(.int .i64)) (by decide) x];unfold G3;by_cases h:left - (x.length:Int)<0
 ·rw[af h,ab,aq (by omega)]
 rw[ak h,ae,aA (by omega)]
theorem acu {x:QT} {N:Nat} {left:Int} {kf:Int->aa} (hw:wf lG x) (hN:aQ lG x<N) (h0:0<=left) (h1:left<=1048576):zY N x left kf=kf (G3 left (aQ lG x)):=by
 have hs:aQ lG x=aQ (.sl (.int .i64)) x.2.2.2.2.2:=by simp[aQ]
 rw[hs] at hN ⊢;unfold zY;rw[Ja hw.2.2.2.2.2 (by omega) h0 h1];by_cases c0:G3 left (aQ (.sl (.int .i64)) x.2.2.2.2.2)<0
 ·rw[af c0,ab,OF h0 c0 (by omega)]
 rw[ak c0,ae]
theorem ZM {x:bz } {N:Nat} {left:Int} {kf:Int->aa} (hw:wf (.sl lG) x) (hN:aQ (.sl lG) x<N) (h0:0<=left) (h1:left<=1048576):HJ N x left kf=kf (G3 left (aQ (.sl lG) x)):=by
 have hl:=XK hw;have hm:=aT;have hs:=cC (t:=lG) x;unfold HJ;rw[iT];by_cases h:left - (x.length:Int)<0
 ·rw[af h,ab];unfold G3;rw[aq (by omega)]
 rw[ak h,ae,U2 hl (by omega)];have hg:=als (g:=λx s k=>zY N x s k) (sz:=aQ lG) (kf:=kf) x 0 (left - (x.length:Int)) (λy hy s k b0 b1=>acu (hw.2 y hy) (by have:=eA (t:=lG) hy;omega) b0 b1) (by omega) (by omega);refine dW hg ?_;rw[anE (by omega),ae2 (t:=lG)]
theorem ZN {x:QJ} {N:Nat} {left:Int} {kf:Int->aa} (hw:wf n5 x) (hN:aQ n5 x<N) (h0:0<=left) (h1:left<=1048576):w7 N x left kf=kf (G3 left (aQ n5 x)):=by
 have hs:aQ n5 x=aQ (.sl (.int .i64)) x.2.2:=by simp[aQ]
 rw[hs] at hN ⊢;unfold w7;rw[Ja hw.2.2 (by omega) h0 h1];by_cases c0:G3 left (aQ (.sl (.int .i64)) x.2.2)<0
 ·rw[af c0,ab,OF h0 c0 (by omega)]
 rw[ak c0,ae]
theorem XW {x:dE } {N:Nat} {left:Int} {kf:Int->aa} (hw:wf (.sl n5) x) (hN:aQ (.sl n5) x<N) (h0:0<=left) (h1:left<=1048576):E5 N x left kf=kf (G3 left (aQ (.sl n5) x)):=by
 have hl:=XK hw;have hm:=aT;have hs:=cC (t:=n5) x;unfold E5;rw[iT];by_cases h:left - (x.length:Int)<0
 ·rw[af h,ab];unfold G3;rw[aq (by omega)]
 rw[ak h,ae,SE hl (by omega)];have hg:=als (g:=λx s k=>w7 N x s k) (sz:=aQ n5) (kf:=kf) x 0 (left - (x.length:Int)) (λy hy s k b0 b1=>ZN (hw.2 y hy) (by have:=eA (t:=n5) hy;omega) b0 b1) (by omega) (by omega);refine dW hg ?_;rw[anE (by omega),ae2 (t:=n5)]
theorem ZO {x:c8 } {N:Nat} {left:Int} {kf:Int->aa} (hw:wf (.sl dt) x) (hN:aQ (.sl dt) x<N) (h0:0<=left) (h1:left<=1048576):HK N x left kf=kf (G3 left (aQ (.sl dt) x)):=by
 have hl:=XK hw;have hm:=aT;have hs:=cC (t:=dt) x;unfold HK;rw[iT];rw[xW (t:=dt) (by decide) x];unfold G3;by_cases h:left - (x.length:Int)<0
 ·rw[af h,ab,aq (by omega)]
 rw[ak h,ae,aA (by omega)]
theorem Vg {x:fb } {N:Nat} {left:Int} {kf:Int->aa} (hw:wf (.sl vo) x) (hN:aQ (.sl vo) x<N) (h0:0<=left) (h1:left<=1048576):Bb N x left kf=kf (G3 left (aQ (.sl vo) x)):=by
 have hl:=XK hw;have hm:=aT;have hs:=cC (t:=vo) x;unfold Bb;rw[iT];rw[xW (t:=vo) (by decide) x];unfold G3;by_cases h:left - (x.length:Int)<0
 ·rw[af h,ab,aq (by omega)]
 rw[ak h,ae,aA (by omega)]
theorem ZP {x:fy } {N:Nat} {left:Int} {kf:Int->aa} (hw:wf (.sl tM) x) (hN:aQ (.sl tM) x<N) (h0:0<=left) (h1:left<=1048576):HL N x left kf=kf (G3 left (aQ (.sl tM) x)):=by
 have hl:=XK hw;have hm:=aT;have hs:=cC (t:=tM) x;unfold HL;rw[iT];rw[xW (t:=tM) (by decide) x];unfold G3;by_cases h:left - (x.length:Int)<0
 ·rw[af h,ab,aq (by omega)]
 rw[ak h,ae,aA (by omega)]
theorem acv {x:QC} {N:Nat} {left:Int} {kf:Int->aa} (hw:wf pG x) (hN:aQ pG x<N) (h0:0<=left) (h1:left<=1048576):Fy N x left kf=kf (G3 left (aQ pG x)):=by
 have hs:aQ pG x=aQ (.sl lG) x.1+aQ (.sl n5) x.2.1+aQ (.sl dt) x.2.2.1+aQ (.sl (.int .i64)) x.2.2.2.1+aQ (.sl vo) x.2.2.2.2.1+aQ (.sl tM) x.2.2.2.2.2.1:=by simp[aQ];omega
 rw[hs] at hN ⊢;unfold Fy;rw[ZM hw.1 (by omega) h0 h1];by_cases c0:G3 left (aQ (.sl lG) x.1)<0
 ·rw[af c0,ab,OF h0 c0 (by omega)]
 rw[ak c0,ae];obtain⟨p0,q0⟩:=Io h0 h1 c0;rw[XW hw.2.1 (by omega) p0 q0,OE h0 c0];by_cases c1:G3 left (aQ (.sl lG) x.1+aQ (.sl n5) x.2.1)<0
 ·rw[af c1,ab,OF h0 c1 (by omega)]
 rw[ak c1,ae];obtain⟨p1,q1⟩:=Io h0 h1 c1;rw[ZO hw.2.2.1 (by omega) p1 q1,OE h0 c1];by_cases c2:G3 left (aQ (.sl lG) x.1+aQ (.sl n5) x.2.1+aQ (.sl dt) x.2.2.1)<0
 ·rw[af c2,ab,OF h0 c2 (by omega)]
 rw[ak c2,ae];obtain⟨p2,q2⟩:=Io h0 h1 c2;rw[Ja hw.2.2.2.1 (by omega) p2 q2,OE h0 c2];by_cases c3:G3 left (aQ (.sl lG) x.1+aQ (.sl n5) x.2.1+aQ (.sl dt) x.2.2.1+aQ (.sl (.int .i64)) x.2.2.2.1)<0
 ·rw[af c3,ab,OF h0 c3 (by omega)]
 rw[ak c3,ae];obtain⟨p3,q3⟩:=Io h0 h1 c3;rw[Vg hw.2.2.2.2.1 (by omega) p3 q3,OE h0 c3];by_cases c4:G3 left (aQ (.sl lG) x.1+aQ (.sl n5) x.2.1+aQ (.sl dt) x.2.2.1+aQ (.sl (.int .i64)) x.2.2.2.1+aQ (.sl vo) x.2.2.2.2.1)<0
 ·rw[af c4,ab,OF h0 c4 (by omega)]
 rw[ak c4,ae];obtain⟨p4,q4⟩:=Io h0 h1 c4;rw[ZP hw.2.2.2.2.2.1 (by omega) p4 q4,OE h0 c4];by_cases c5:G3 left (aQ (.sl lG) x.1+aQ (.sl n5) x.2.1+aQ (.sl dt) x.2.2.1+aQ (.sl (.int .i64)) x.2.2.2.1+aQ (.sl vo) x.2.2.2.2.1+aQ (.sl tM) x.2.2.2.2.2.1)<0
 ·rw[af c5,ab,OF h0 c5 (by omega)]
 rw[ak c5,ae]
theorem Jb {x:az } {N:Nat} {kf:az->aa} (hN:aQ (.sl (.int .i64)) x<N) (hb:aQ (.sl (.int .i64)) x<=1048576):zZ N x kf=kf x:=by have hs:=cC (t:=(.int .i64)) x;have hm:=aT;unfold zZ;rw[XJ (by omega),ab,XR (by omega) (by omega)];have hg:=Su (g:=λx k=>k x) (du:=kf) x 0 (List.replicate (toNat (x.length:Int)) 0) (λ_ _ _=>rfl) (by simp);refine dW hg ?_;simp
theorem acw {x:QT} {N:Nat} {kf:QT->aa} (hN:aQ lG x<N) (hb:aQ lG x<=1048576):z6 N x kf=kf x:=by
 have hs:aQ lG x=aQ (.sl (.int .i64)) x.2.2.2.2.2:=by simp[aQ]
 rw[hs] at hN hb;unfold z6;rw[Jb (by omega) (by omega)]
theorem ZQ {x:bz } {N:Nat} {kf:bz->aa} (hN:aQ (.sl lG) x<N) (hb:aQ (.sl lG) x<=1048576):HM N x kf=kf x:=by have hs:=cC (t:=lG) x;have hm:=aT;unfold HM;rw[XJ (by omega),ab,U3 (by omega) (by omega)];have hg:=Su (g:=λx k=>z6 N x k) (du:=kf) x 0 (List.replicate (toNat (x.length:Int)) (0,(0,(0,(0,(0,([]:az))))))) (λy hy k=>acw (by have:=eA (t:=lG) hy;omega) (by have:=eA (t:=lG) hy;omega)) (by simp);refine dW hg ?_;simp
theorem ZR {x:QJ} {N:Nat} {kf:QJ->aa} (hN:aQ n5 x<N) (hb:aQ n5 x<=1048576):w8 N x kf=kf x:=by
 have hs:aQ n5 x=aQ (.sl (.int .i64)) x.2.2:=by simp[aQ]
 rw[hs] at hN hb;unfold w8;rw[Jb (by omega) (by omega)]
theorem XX {x:dE } {N:Nat} {kf:dE->aa} (hN:aQ (.sl n5) x<N) (hb:aQ (.sl n5) x<=1048576):E6 N x kf=kf x:=by have hs:=cC (t:=n5) x;have hm:=aT;unfold E6;rw[XJ (by omega),ab,SF (by omega) (by omega)];have hg:=Su (g:=λx k=>w8 N x k) (du:=kf) x 0 (List.replicate (toNat (x.length:Int)) (0,(0,([]:az)))) (λy hy k=>ZR (by have:=eA (t:=n5) hy;omega) (by have:=eA (t:=n5) hy;omega)) (by simp);refine dW hg ?_;simp
theorem acx {x:KW} {N:Nat} {kf:KW->aa} (hN:aQ dt x<N) (hb:aQ dt x<=1048576):z7 N x kf=kf x:=by
 have hs:aQ dt x=0:=by simp[aQ]
 rw[hs] at hN hb;unfold z7;rfl
theorem ZS {x:c8 } {N:Nat} {kf:c8->aa} (hN:aQ (.sl dt) x<N) (hb:aQ (.sl dt) x<=1048576):HN N x kf=kf x:=by have hs:=cC (t:=dt) x;have hm:=aT;unfold HN;rw[XJ (by omega),ab,U4 (by omega) (by omega)];have hg:=Su (g:=λx k=>z7 N x k) (du:=kf) x 0 (List.replicate (toNat (x.length:Int)) (0,0)) (λy hy k=>acx (by have:=eA (t:=dt) hy;omega) (by have:=eA (t:=dt) hy;omega)) (by simp);refine dW hg ?_;simp
theorem XY {x:QB} {N:Nat} {kf:QB->aa} (hN:aQ vo x<N) (hb:aQ vo x<=1048576):u9 N x kf=kf x:=by
 have hs:aQ vo x=0:=by simp[aQ]
 rw[hs] at hN hb;unfold u9;rfl
theorem Vh {x:fb } {N:Nat} {kf:fb->aa} (hN:aQ (.sl vo) x<N) (hb:aQ (.sl vo) x<=1048576):Bc N x kf=kf x:=by have hs:=cC (t:=vo) x;have hm:=aT;unfold Bc;rw[XJ (by omega),ab,Qp (by omega) (by omega)];have hg:=Su (g:=λx k=>u9 N x k) (du:=kf) x 0 (List.replicate (toNat (x.length:Int)) (0,(0,0))) (λy hy k=>XY (by have:=eA (t:=vo) hy;omega) (by have:=eA (t:=vo) hy;omega)) (by simp);refine dW hg ?_;simp
theorem acy {x:QL} {N:Nat} {kf:QL->aa} (hN:aQ tM x<N) (hb:aQ tM x<=1048576):z8 N x kf=kf x:=by
 have hs:aQ tM x=0:=by simp[aQ]
 rw[hs] at hN hb;unfold z8;rfl
theorem ZT {x:fy } {N:Nat} {kf:fy->aa} (hN:aQ (.sl tM) x<N) (hb:aQ (.sl tM) x<=1048576):HO N x kf=kf x:=by have hs:=cC (t:=tM) x;have hm:=aT;unfold HO;rw[XJ (by omega),ab,U5 (by omega) (by omega)];have hg:=Su (g:=λx k=>z8 N x k) (du:=kf) x 0 (List.replicate (toNat (x.length:Int)) (0,(0,(0,0)))) (λy hy k=>acy (by have:=eA (t:=tM) hy;omega) (by have:=eA (t:=tM) hy;omega)) (by simp);refine dW hg ?_;simp
theorem acz {x:QC} {N:Nat} {kf:QC->aa} (hN:aQ pG x<N) (hb:aQ pG x<=1048576):z' N x kf=kf x:=by
 have hs:aQ pG x=aQ (.sl lG) x.1+aQ (.sl n5) x.2.1+aQ (.sl dt) x.2.2.1+aQ (.sl (.int .i64)) x.2.2.2.1+aQ (.sl vo) x.2.2.2.2.1+aQ (.sl tM) x.2.2.2.2.2.1:=by simp[aQ];omega
 rw[hs] at hN hb;unfold z';rw[ZQ (by omega) (by omega)];rw[XX (by omega) (by omega)];rw[ZS (by omega) (by omega)];rw[Jb (by omega) (by omega)];rw[Vh (by omega) (by omega)];rw[ZT (by omega) (by omega)]
theorem Jc {x:az } {N:Nat} {kf:Bool->aa} (hN:aQ (.sl (.int .i64)) x<N) (hw:aQ (.sl (.int .i64)) x<=2097152):Af N x x kf=kf true:=by have hs:=cC (t:=(.int .i64)) x;have hm:=aT;unfold Af;simp only[aZ,ae];rw[XV (by omega) (by omega)];refine Sv (l:=x) (λi y next h e=>?_) x 0 rfl;simp only[aJ h,aj,aI _ i h,e,ab];simp
theorem acA {x:QT} {N:Nat} {kf:Bool->aa} (hN:aQ lG x<N) (hw:aQ lG x<=2097152):FE N x x kf=kf true:=by
 have hs:aQ lG x=aQ (.sl (.int .i64)) x.2.2.2.2.2:=by simp[aQ]
 rw[hs] at hN hw;unfold FE;simp only[aZ,ae];rw[Jc (by omega) (by omega)];simp only[ay,aZ,ae]
theorem ZU {x:bz } {N:Nat} {kf:Bool->aa} (hN:aQ (.sl lG) x<N) (hw:aQ (.sl lG) x<=2097152):H4 N x x kf=kf true:=by
 have hs:=cC (t:=lG) x;have hm:=aT;unfold H4;simp only[aZ,ae];rw[Vd (by omega) (by omega)];refine Sv (l:=x) (λi y next h e=>?_) x 0 rfl;simp only[aJ h,aj,aI _ i h,e,ab];have hy:y∈x:=by rw[←e];exact aK h
 rw[acA (by have:=eA (t:=lG) hy;omega) (by have:=eA (t:=lG) hy;omega)];simp
theorem ZV {x:QJ} {N:Nat} {kf:Bool->aa} (hN:aQ n5 x<N) (hw:aQ n5 x<=2097152):BK N x x kf=kf true:=by
 have hs:aQ n5 x=aQ (.sl (.int .i64)) x.2.2:=by simp[aQ]
 rw[hs] at hN hw;unfold BK;simp only[aZ,ae];rw[Jc (by omega) (by omega)];simp only[ay,aZ,ae]
theorem XZ {x:dE } {N:Nat} {kf:Bool->aa} (hN:aQ (.sl n5) x<N) (hw:aQ (.sl n5) x<=2097152):Fi N x x kf=kf true:=by
 have hs:=cC (t:=n5) x;have hm:=aT;unfold Fi;simp only[aZ,ae];rw[SU (by omega) (by omega)];refine Sv (l:=x) (λi y next h e=>?_) x 0 rfl;simp only[aJ h,aj,aI _ i h,e,ab];have hy:y∈x:=by rw[←e];exact aK h
 rw[ZV (by have:=eA (t:=n5) hy;omega) (by have:=eA (t:=n5) hy;omega)];simp
theorem acB {x:KW} {N:Nat} {kf:Bool->aa} (hN:aQ dt x<N) (hw:aQ dt x<=2097152):FF N x x kf=kf true:=by
 have hs:aQ dt x=0:=by simp[aQ]
 rw[hs] at hN hw;unfold FF;simp only[aZ,ae]
theorem ZW {x:c8 } {N:Nat} {kf:Bool->aa} (hN:aQ (.sl dt) x<N) (hw:aQ (.sl dt) x<=2097152):H5 N x x kf=kf true:=by
 have hs:=cC (t:=dt) x;have hm:=aT;unfold H5;simp only[aZ,ae];rw[Ve (by omega) (by omega)];refine Sv (l:=x) (λi y next h e=>?_) x 0 rfl;simp only[aJ h,aj,aI _ i h,e,ab];have hy:y∈x:=by rw[←e];exact aK h
 rw[acB (by have:=eA (t:=dt) hy;omega) (by have:=eA (t:=dt) hy;omega)];simp
theorem X0 {x:QB} {N:Nat} {kf:Bool->aa} (hN:aQ vo x<N) (hw:aQ vo x<=2097152):yf N x x kf=kf true:=by
 have hs:aQ vo x=0:=by simp[aQ]
 rw[hs] at hN hw;unfold yf;simp only[aZ,ae]
theorem Vi {x:fb } {N:Nat} {kf:Bool->aa} (hN:aQ (.sl vo) x<N) (hw:aQ (.sl vo) x<=2097152):BL N x x kf=kf true:=by
 have hs:=cC (t:=vo) x;have hm:=aT;unfold BL;simp only[aZ,ae];rw[QR (by omega) (by omega)];refine Sv (l:=x) (λi y next h e=>?_) x 0 rfl;simp only[aJ h,aj,aI _ i h,e,ab];have hy:y∈x:=by rw[←e];exact aK h
 rw[X0 (by have:=eA (t:=vo) hy;omega) (by have:=eA (t:=vo) hy;omega)];simp
theorem acC {x:QL} {N:Nat} {kf:Bool->aa} (hN:aQ tM x<N) (hw:aQ tM x<=2097152):FH N x x kf=kf true:=by
 have hs:aQ tM x=0:=by simp[aQ]
 rw[hs] at hN hw;unfold FH;simp only[aZ,ae]
theorem ZX {x:fy } {N:Nat} {kf:Bool->aa} (hN:aQ (.sl tM) x<N) (hw:aQ (.sl tM) x<=2097152):H6 N x x kf=kf true:=by
 have hs:=cC (t:=tM) x;have hm:=aT;unfold H6;simp only[aZ,ae];rw[Vf (by omega) (by omega)];refine Sv (l:=x) (λi y next h e=>?_) x 0 rfl;simp only[aJ h,aj,aI _ i h,e,ab];have hy:y∈x:=by rw[←e];exact aK h
 rw[acC (by have:=eA (t:=tM) hy;omega) (by have:=eA (t:=tM) hy;omega)];simp
theorem Pc {x:QC} {N:Nat} {kf:Bool->aa} (hN:aQ pG x<N) (hw:aQ pG x<=2097152):wE N x x kf=kf true:=by
 have hs:aQ pG x=aQ (.sl lG) x.1+aQ (.sl n5) x.2.1+aQ (.sl dt) x.2.2.1+aQ (.sl (.int .i64)) x.2.2.2.1+aQ (.sl vo) x.2.2.2.2.1+aQ (.sl tM) x.2.2.2.2.2.1:=by simp[aQ];omega
 rw[hs] at hN hw;unfold wE;simp only[aZ,ae];rw[ZU (by omega) (by omega)];simp only[ay,aZ,ae];rw[XZ (by omega) (by omega)];simp only[ay,aZ,ae];rw[ZW (by omega) (by omega)];simp only[ay,aZ,ae];rw[Jc (by omega) (by omega)];simp only[ay,aZ,ae];rw[Vi (by omega) (by omega)];simp only[ay,aZ,ae];rw[ZX (by omega) (by omega)];simp only[ay,aZ,ae]
theorem EA {x:az } {N:Nat} {k:Int} {kf:Int->az->aa} (hN:aQ (.sl (.int .i64)) x<N) (hS:aQ (.sl (.int .i64)) x<=1152921504606846976) (h0:0<=k) (hB:(cq (bS (.int .i64)) x k).2<=4611686018427387904):yg N x k kf=kf (cq (bS (.int .i64)) x k).2 (cq (bS (.int .i64)) x k).1:=by
 have hs:=cC (t:=(.int .i64)) x;have:=zi (f:=bS (.int .i64)) (B:=4611686018427387904) (Q:=λy=>y∈x) (L:=λn xs k i=>p8 n (λz k=>kf k z) xs k i) (du:=λxs k=>kf k xs) (m0:=x.length) (s6 _) (λn xs k i h hm hq h0 hb=>by
  simp only[p8]
  rw[af (show(i:Int)<(xs.length:Int) by omega)]
  simp only[fI,eL,iy] at hb
  simp only[ab,aJ h,aj,share,br,set_set,LK _ _ h,aI _ i h]
  simp (disch:=omega) only[fI,eL,iy,wrap64]
  rfl) (λn xs k=>by
  simp only[p8]
  rw[fD]
  rfl) x [] N k (by simp) (λ_ h=>h) (by omega) h0 hB
 exact this
theorem Vj {x:bz } {N:Nat} {k:Int} {kf:Int->bz->aa} (hN:aQ (.sl lG) x<N) (hS:aQ (.sl lG) x<=1152921504606846976) (h0:0<=k) (hB:(cq (bS lG) x k).2<=4611686018427387904):I5 N x k kf=kf (cq (bS lG) x k).2 (cq (bS lG) x k).1:=by
 have hs:=cC (t:=lG) x;have:=zi (f:=bS lG) (B:=4611686018427387904) (Q:=λy=>y∈x) (L:=λn xs k i=>oA N n (λz k=>kf k z) xs k i) (du:=λxs k=>kf k xs) (m0:=x.length) (s6 _) (λn xs k i h hm hq h0 hb=>by
  simp only[oA]
  rw[af (show(i:Int)<(xs.length:Int) by omega)]
  simp only[fI,eL,iy] at hb
  simp only[ab,aJ h,aj,share,br,set_set,LK _ _ h,aI _ i h]
  have hg:=pr (t:=(.int .i64)) xs[i].2.2.2.2.2 (k+1+1+1+1+1)
  try simp (disch:=omega) only[wrap64]
  have hz:=eA (t:=lG) hq
  have hy:aQ (.sl (.int .i64)) xs[i].2.2.2.2.2<=aQ lG xs[i]:=by simp[aQ]
  rw[EA (by omega) (by omega) (by omega) (by omega)]
  simp (disch:=omega) only[fI,eL,iy,wrap64]
  rfl) (λn xs k=>by
  simp only[oA]
  rw[fD]
  rfl) x [] N k (by simp) (λ_ h=>h) (by omega) h0 hB
 exact this
theorem SV {x:dE } {N:Nat} {k:Int} {kf:Int->dE->aa} (hN:aQ (.sl n5) x<N) (hS:aQ (.sl n5) x<=1152921504606846976) (h0:0<=k) (hB:(cq (bS n5) x k).2<=4611686018427387904):GF N x k kf=kf (cq (bS n5) x k).2 (cq (bS n5) x k).1:=by
 have hs:=cC (t:=n5) x;have:=zi (f:=bS n5) (B:=4611686018427387904) (Q:=λy=>y∈x) (L:=λn xs k i=>nA N n (λz k=>kf k z) xs k i) (du:=λxs k=>kf k xs) (m0:=x.length) (s6 _) (λn xs k i h hm hq h0 hb=>by
  simp only[nA]
  rw[af (show(i:Int)<(xs.length:Int) by omega)]
  simp only[fI,eL,iy] at hb
  simp only[ab,aJ h,aj,share,br,set_set,LK _ _ h,aI _ i h]
  have hg:=pr (t:=(.int .i64)) xs[i].2.2 (k+1+1)
  try simp (disch:=omega) only[wrap64]
  have hz:=eA (t:=n5) hq
  have hy:aQ (.sl (.int .i64)) xs[i].2.2<=aQ n5 xs[i]:=by simp[aQ]
  rw[EA (by omega) (by omega) (by omega) (by omega)]
  simp (disch:=omega) only[fI,eL,iy,wrap64]
  rfl) (λn xs k=>by
  simp only[nA]
  rw[fD]
  rfl) x [] N k (by simp) (λ_ h=>h) (by omega) h0 hB
 exact this
theorem Vk {x:c8 } {N:Nat} {k:Int} {kf:Int->c8->aa} (hN:aQ (.sl dt) x<N) (hS:aQ (.sl dt) x<=1152921504606846976) (h0:0<=k) (hB:(cq (bS dt) x k).2<=4611686018427387904):I6 N x k kf=kf (cq (bS dt) x k).2 (cq (bS dt) x k).1:=by
 have hs:=cC (t:=dt) x;have:=zi (f:=bS dt) (B:=4611686018427387904) (Q:=λy=>y∈x) (L:=λn xs k i=>oD n (λz k=>kf k z) xs k i) (du:=λxs k=>kf k xs) (m0:=x.length) (s6 _) (λn xs k i h hm hq h0 hb=>by
  simp only[oD]
  rw[af (show(i:Int)<(xs.length:Int) by omega)]
  simp only[fI,eL,iy] at hb
  simp only[ab,aJ h,aj,share,br,set_set,LK _ _ h,aI _ i h]
  simp (disch:=omega) only[fI,eL,iy,wrap64]
  rfl) (λn xs k=>by
  simp only[oD]
  rw[fD]
  rfl) x [] N k (by simp) (λ_ h=>h) (by omega) h0 hB
 exact this
theorem QS {x:fb } {N:Nat} {k:Int} {kf:Int->fb->aa} (hN:aQ (.sl vo) x<N) (hS:aQ (.sl vo) x<=1152921504606846976) (h0:0<=k) (hB:(cq (bS vo) x k).2<=4611686018427387904):Ew N x k kf=kf (cq (bS vo) x k).2 (cq (bS vo) x k).1:=by
 have hs:=cC (t:=vo) x;have:=zi (f:=bS vo) (B:=4611686018427387904) (Q:=λy=>y∈x) (L:=λn xs k i=>mE n (λz k=>kf k z) xs k i) (du:=λxs k=>kf k xs) (m0:=x.length) (s6 _) (λn xs k i h hm hq h0 hb=>by
  simp only[mE]
  rw[af (show(i:Int)<(xs.length:Int) by omega)]
  simp only[fI,eL,iy] at hb
  simp only[ab,aJ h,aj,share,br,set_set,LK _ _ h,aI _ i h]
  simp (disch:=omega) only[fI,eL,iy,wrap64]
  rfl) (λn xs k=>by
  simp only[mE]
  rw[fD]
  rfl) x [] N k (by simp) (λ_ h=>h) (by omega) h0 hB
 exact this
theorem Vl {x:fy } {N:Nat} {k:Int} {kf:Int->fy->aa} (hN:aQ (.sl tM) x<N) (hS:aQ (.sl tM) x<=1152921504606846976) (h0:0<=k) (hB:(cq (bS tM) x k).2<=4611686018427387904):I7 N x k kf=kf (cq (bS tM) x k).2 (cq (bS tM) x k).1:=by
 have hs:=cC (t:=tM) x;have:=zi (f:=bS tM) (B:=4611686018427387904) (Q:=λy=>y∈x) (L:=λn xs k i=>oH n (λz k=>kf k z) xs k i) (du:=λxs k=>kf k xs) (m0:=x.length) (s6 _) (λn xs k i h hm hq h0 hb=>by
  simp only[oH]
  rw[af (show(i:Int)<(xs.length:Int) by omega)]
  simp only[fI,eL,iy] at hb
  simp only[ab,aJ h,aj,share,br,set_set,LK _ _ h,aI _ i h]
  simp (disch:=omega) only[fI,eL,iy,wrap64]
  rfl) (λn xs k=>by
  simp only[oH]
  rw[fD]
  rfl) x [] N k (by simp) (λ_ h=>h) (by omega) h0 hB
 exact this
theorem Mb {x:QC} {N:Nat} {k:Int} {kf:Int->QC->aa} (hN:aQ pG x<N) (hS:aQ pG x<=1152921504606846976) (h0:0<=k) (hB:(lU pG x k).2<=4611686018427387904):sq N x k kf=kf (lU pG x k).2 (lU pG x k).1:=by
 have hs:aQ pG x=aQ (.sl lG) x.1+aQ (.sl n5) x.2.1+aQ (.sl dt) x.2.2.1+aQ (.sl (.int .i64)) x.2.2.2.1+aQ (.sl vo) x.2.2.2.2.1+aQ (.sl tM) x.2.2.2.2.2.1:=by simp[aQ];omega
 rw[hs] at hN hS;simp only[lU] at hB ⊢;unfold sq;have g0:=pr (t:=lG) x.1 k;have g1:=pr (t:=n5) x.2.1 ((cq (bS lG) x.1 k).2);have g2:=pr (t:=dt) x.2.2.1 ((cq (bS n5) x.2.1 ((cq (bS lG) x.1 k).2)).2);have g3:=pr (t:=(.int .i64)) x.2.2.2.1 ((cq (bS dt) x.2.2.1 ((cq (bS n5) x.2.1 ((cq (bS lG) x.1 k).2)).2)).2);have g4:=pr (t:=vo) x.2.2.2.2.1 ((cq (bS (.int .i64)) x.2.2.2.1 ((cq (bS dt) x.2.2.1 ((cq (bS n5) x.2.1 ((cq (bS lG) x.1 k).2)).2)).2)).2);have g5:=pr (t:=tM) x.2.2.2.2.2.1 ((cq (bS vo) x.2.2.2.2.1 ((cq (bS (.int .i64)) x.2.2.2.1 ((cq (bS dt) x.2.2.1 ((cq (bS n5) x.2.1 ((cq (bS lG) x.1 k).2)).2)).2)).2)).2);rw[Vj (by omega) (by omega) (by omega) (by omega)];rw[SV (by omega) (by omega) (by omega) (by omega)];rw[Vk (by omega) (by omega) (by omega) (by omega)];rw[EA (by omega) (by omega) (by omega) (by omega)];rw[QS (by omega) (by omega) (by omega) (by omega)];rw[Vl (by omega) (by omega) (by omega) (by omega)]
theorem EB {x:az } {N:Nat} {k:Int} {kf:Int->aa} (hN:aQ (.sl (.int .i64)) x<N) (hS:aQ (.sl (.int .i64)) x<=1152921504606846976) (h0:0<=k) (hB:(cq (bS (.int .i64)) x k).2<=4611686018427387904):yh N (cq (bS (.int .i64)) x k).1 k kf=kf (cq (bS (.int .i64)) x k).2:=by
 have hs:=cC (t:=(.int .i64)) x;have hl:=Ea (bS (.int .i64)) x k;have:=zj (f:=bS (.int .i64)) (B:=4611686018427387904) (Q:=λy=>y∈x) (xs':=(cq (bS (.int .i64)) x k).1) (L:=λn k2 i=>p9 (cq (bS (.int .i64)) x k).1 n kf kf k2 i) (du:=kf) (s6 _) (λn k1 i h y hq hy h0 hb=>by
  simp only[p9]
  rw[af (show(i:Int)<((cq (bS (.int .i64)) x k).1.length:Int) by omega)]
  simp only[fI,eL,iy] at hb hy
  try simp (disch:=omega) only[wrap64] at hy
  simp only[ab,aJ h,aj,aI _ i h,hy]
  try simp (disch:=omega) only[wrap64,aZ,ae]
  simp (disch:=omega) only[fI,eL,iy,wrap64]
  rfl) (λn k1=>by
  simp only[p9]
  rw[fD]
  rfl) x [] N k rfl (λ_ h=>h) (by omega) h0 hB
 exact this
theorem Vm {x:bz } {N:Nat} {k:Int} {kf:Int->aa} (hN:aQ (.sl lG) x<N) (hS:aQ (.sl lG) x<=1152921504606846976) (h0:0<=k) (hB:(cq (bS lG) x k).2<=4611686018427387904):I8 N (cq (bS lG) x k).1 k kf=kf (cq (bS lG) x k).2:=by
 have hs:=cC (t:=lG) x;have hl:=Ea (bS lG) x k;have:=zj (f:=bS lG) (B:=4611686018427387904) (Q:=λy=>y∈x) (xs':=(cq (bS lG) x k).1) (L:=λn k2 i=>oI N (cq (bS lG) x k).1 n kf kf k2 i) (du:=kf) (s6 _) (λn k1 i h y hq hy h0 hb=>by
  simp only[oI]
  rw[af (show(i:Int)<((cq (bS lG) x k).1.length:Int) by omega)]
  simp only[fI,eL,iy] at hb hy
  have hg:=pr (t:=(.int .i64)) y.2.2.2.2.2 (k1+1+1+1+1+1)
  have hz:=eA (t:=lG) hq
  have hw:aQ (.sl (.int .i64)) y.2.2.2.2.2<=aQ lG y:=by simp[aQ]
  try simp (disch:=omega) only[wrap64] at hy
  simp only[ab,aJ h,aj,aI _ i h,hy]
  try simp (disch:=omega) only[wrap64,aZ,ae]
  rw[EB (by omega) (by omega) (by omega) (by omega),fD,ae]
  simp (disch:=omega) only[fI,eL,iy,wrap64]
  rfl) (λn k1=>by
  simp only[oI]
  rw[fD]
  rfl) x [] N k rfl (λ_ h=>h) (by omega) h0 hB
 exact this
theorem SW {x:dE } {N:Nat} {k:Int} {kf:Int->aa} (hN:aQ (.sl n5) x<N) (hS:aQ (.sl n5) x<=1152921504606846976) (h0:0<=k) (hB:(cq (bS n5) x k).2<=4611686018427387904):GG N (cq (bS n5) x k).1 k kf=kf (cq (bS n5) x k).2:=by
 have hs:=cC (t:=n5) x;have hl:=Ea (bS n5) x k;have:=zj (f:=bS n5) (B:=4611686018427387904) (Q:=λy=>y∈x) (xs':=(cq (bS n5) x k).1) (L:=λn k2 i=>nB N (cq (bS n5) x k).1 n kf kf k2 i) (du:=kf) (s6 _) (λn k1 i h y hq hy h0 hb=>by
  simp only[nB]
  rw[af (show(i:Int)<((cq (bS n5) x k).1.length:Int) by omega)]
  simp only[fI,eL,iy] at hb hy
  have hg:=pr (t:=(.int .i64)) y.2.2 (k1+1+1)
  have hz:=eA (t:=n5) hq
  have hw:aQ (.sl (.int .i64)) y.2.2<=aQ n5 y:=by simp[aQ]
  try simp (disch:=omega) only[wrap64] at hy
  simp only[ab,aJ h,aj,aI _ i h,hy]
  try simp (disch:=omega) only[wrap64,aZ,ae]
  rw[EB (by omega) (by omega) (by omega) (by omega),fD,ae]
  simp (disch:=omega) only[fI,eL,iy,wrap64]
  rfl) (λn k1=>by
  simp only[nB]
  rw[fD]
  rfl) x [] N k rfl (λ_ h=>h) (by omega) h0 hB
 exact this
theorem Vn {x:c8 } {N:Nat} {k:Int} {kf:Int->aa} (hN:aQ (.sl dt) x<N) (hS:aQ (.sl dt) x<=1152921504606846976) (h0:0<=k) (hB:(cq (bS dt) x k).2<=4611686018427387904):I9 N (cq (bS dt) x k).1 k kf=kf (cq (bS dt) x k).2:=by
 have hs:=cC (t:=dt) x;have hl:=Ea (bS dt) x k;have:=zj (f:=bS dt) (B:=4611686018427387904) (Q:=λy=>y∈x) (xs':=(cq (bS dt) x k).1) (L:=λn k2 i=>oJ (cq (bS dt) x k).1 n kf kf k2 i) (du:=kf) (s6 _) (λn k1 i h y hq hy h0 hb=>by
  simp only[oJ]
  rw[af (show(i:Int)<((cq (bS dt) x k).1.length:Int) by omega)]
  simp only[fI,eL,iy] at hb hy
  try simp (disch:=omega) only[wrap64] at hy
  simp only[ab,aJ h,aj,aI _ i h,hy]
  try simp (disch:=omega) only[wrap64,aZ,ae]
  simp (disch:=omega) only[fI,eL,iy,wrap64]
  rfl) (λn k1=>by
  simp only[oJ]
  rw[fD]
  rfl) x [] N k rfl (λ_ h=>h) (by omega) h0 hB
 exact this
theorem QU {x:fb } {N:Nat} {k:Int} {kf:Int->aa} (hN:aQ (.sl vo) x<N) (hS:aQ (.sl vo) x<=1152921504606846976) (h0:0<=k) (hB:(cq (bS vo) x k).2<=4611686018427387904):Ey N (cq (bS vo) x k).1 k kf=kf (cq (bS vo) x k).2:=by
 have hs:=cC (t:=vo) x;have hl:=Ea (bS vo) x k;have:=zj (f:=bS vo) (B:=4611686018427387904) (Q:=λy=>y∈x) (xs':=(cq (bS vo) x k).1) (L:=λn k2 i=>mF (cq (bS vo) x k).1 n kf kf k2 i) (du:=kf) (s6 _) (λn k1 i h y hq hy h0 hb=>by
  simp only[mF]
  rw[af (show(i:Int)<((cq (bS vo) x k).1.length:Int) by omega)]
  simp only[fI,eL,iy] at hb hy
  try simp (disch:=omega) only[wrap64] at hy
  simp only[ab,aJ h,aj,aI _ i h,hy]
  try simp (disch:=omega) only[wrap64,aZ,ae]
  simp (disch:=omega) only[fI,eL,iy,wrap64]
  rfl) (λn k1=>by
  simp only[mF]
  rw[fD]
  rfl) x [] N k rfl (λ_ h=>h) (by omega) h0 hB
 exact this
theorem Vo {x:fy } {N:Nat} {k:Int} {kf:Int->aa} (hN:aQ (.sl tM) x<N) (hS:aQ (.sl tM) x<=1152921504606846976) (h0:0<=k) (hB:(cq (bS tM) x k).2<=4611686018427387904):I' N (cq (bS tM) x k).1 k kf=kf (cq (bS tM) x k).2:=by
 have hs:=cC (t:=tM) x;have hl:=Ea (bS tM) x k;have:=zj (f:=bS tM) (B:=4611686018427387904) (Q:=λy=>y∈x) (xs':=(cq (bS tM) x k).1) (L:=λn k2 i=>oK (cq (bS tM) x k).1 n kf kf k2 i) (du:=kf) (s6 _) (λn k1 i h y hq hy h0 hb=>by
  simp only[oK]
  rw[af (show(i:Int)<((cq (bS tM) x k).1.length:Int) by omega)]
  simp only[fI,eL,iy] at hb hy
  try simp (disch:=omega) only[wrap64] at hy
  simp only[ab,aJ h,aj,aI _ i h,hy]
  try simp (disch:=omega) only[wrap64,aZ,ae]
  simp (disch:=omega) only[fI,eL,iy,wrap64]
  rfl) (λn k1=>by
  simp only[oK]
  rw[fD]
  rfl) x [] N k rfl (λ_ h=>h) (by omega) h0 hB
 exact this
theorem X4 {x:QC} {N:Nat} {k:Int} {kf:Int->aa} (hN:aQ pG x<N) (hS:aQ pG x<=1152921504606846976) (h0:0<=k) (hB:(lU pG x k).2<=4611686018427387904):vf N (lU pG x k).1 k kf=kf (lU pG x k).2:=by
 have hs:aQ pG x=aQ (.sl lG) x.1+aQ (.sl n5) x.2.1+aQ (.sl dt) x.2.2.1+aQ (.sl (.int .i64)) x.2.2.2.1+aQ (.sl vo) x.2.2.2.2.1+aQ (.sl tM) x.2.2.2.2.2.1:=by simp[aQ];omega
 rw[hs] at hN hS;simp only[lU] at hB ⊢;unfold vf;have g0:=pr (t:=lG) x.1 k;have g1:=pr (t:=n5) x.2.1 ((cq (bS lG) x.1 k).2);have g2:=pr (t:=dt) x.2.2.1 ((cq (bS n5) x.2.1 ((cq (bS lG) x.1 k).2)).2);have g3:=pr (t:=(.int .i64)) x.2.2.2.1 ((cq (bS dt) x.2.2.1 ((cq (bS n5) x.2.1 ((cq (bS lG) x.1 k).2)).2)).2);have g4:=pr (t:=vo) x.2.2.2.2.1 ((cq (bS (.int .i64)) x.2.2.2.1 ((cq (bS dt) x.2.2.1 ((cq (bS n5) x.2.1 ((cq (bS lG) x.1 k).2)).2)).2)).2);have g5:=pr (t:=tM) x.2.2.2.2.2.1 ((cq (bS vo) x.2.2.2.2.1 ((cq (bS (.int .i64)) x.2.2.2.1 ((cq (bS dt) x.2.2.1 ((cq (bS n5) x.2.1 ((cq (bS lG) x.1 k).2)).2)).2)).2)).2);rw[Vm (by omega) (by omega) (by omega) (by omega)];rw[fD,ae];rw[SW (by omega) (by omega) (by omega) (by omega)];rw[fD,ae];rw[Vn (by omega) (by omega) (by omega) (by omega)];rw[fD,ae];rw[EB (by omega) (by omega) (by omega) (by omega)];rw[fD,ae];rw[QU (by omega) (by omega) (by omega) (by omega)];rw[fD,ae];rw[Vo (by omega) (by omega) (by omega) (by omega)];rw[fD,ae]
end Go.Pv.R
