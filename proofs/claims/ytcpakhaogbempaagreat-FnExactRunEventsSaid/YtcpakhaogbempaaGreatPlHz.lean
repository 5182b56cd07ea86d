/- What the harness' functions answer. -/
import Derived.Test.YtcpakhaogbempaaGreatPlLst
namespace Go.Pv.R
set_option linter.unusedVariables false
set_option linter.unusedSimpArgs false
theorem Th {x:(List Int)} {N:Nat} {left:Int} {kf:Int→Option aa} (hw:wf (.sl (.int .i64)) x) (hN:ah (.sl (.int .i64)) x<N) (h0:0≤left) (h1:left≤1048576):L87 N x left kf=kf (j0 left (ah (.sl (.int .i64)) x)):=by
 have hl:=uO hw
 have hm:=ar
 have hs:=aO (t:=(.int .i64)) x
 unfold L87
 rw[wrap64 (by omega) (by omega)]
 rw[gh (t:=(.int .i64)) (by decide) x]
 unfold j0
 by_cases h:left - (x.length:Int)<0
 ·rw[decide_eq_true h,cond_true,if_neg (by omega)]
 ·rw[decide_eq_false h,cond_false,if_pos (by omega)]
theorem alr {x:QT} {N:Nat} {left:Int} {kf:Int→Option aa} (hw:wf bo x) (hN:ah bo x<N) (h0:0≤left) (h1:left≤1048576):aaN N x left kf=kf (j0 left (ah bo x)):=by
 have hs:ah bo x=ah (.sl (.int .i64)) x.2.2.2.2.2:=by simp[ah]
 rw[hs] at hN ⊢
 unfold aaN
 rw[Th hw.2.2.2.2.2 (by omega) h0 h1]
 by_cases c0:j0 left (ah (.sl (.int .i64)) x.2.2.2.2.2)<0
 ·rw[decide_eq_true c0,cond_true,rE h0 c0 (by omega)]
 rw[decide_eq_false c0,cond_false]
theorem avJ {x:(List QT)} {N:Nat} {left:Int} {kf:Int→Option aa} (hw:wf (.sl bo) x) (hN:ah (.sl bo) x<N) (h0:0≤left) (h1:left≤1048576):L84 N x left kf=kf (j0 left (ah (.sl bo) x)):=by
 have hl:=uO hw
 have hm:=ar
 have hs:=aO (t:=bo) x
 unfold L84
 rw[wrap64 (by omega) (by omega)]
 by_cases h:left - (x.length:Int)<0
 ·rw[decide_eq_true h,cond_true]
  unfold j0
  rw[if_neg (by omega)]
 ·rw[decide_eq_false h,cond_false,afw hl (by omega)]
  have hg:=Sx (g:=fun x s k=>aaN N x s k) (sz:=ah bo) (kf:=kf) x 0 (left - (x.length:Int)) (fun y hy s k b0 b1=>alr (hw.2 y hy) (by have:=ba (t:=bo) hy;omega) b0 b1) (by omega) (by omega)
  refine Eq.trans hg ?_
  rw[W9 (by omega),H6 (t:=bo)]
theorem als {x:QJ} {N:Nat} {left:Int} {kf:Int→Option aa} (hw:wf bY x) (hN:ah bY x<N) (h0:0≤left) (h1:left≤1048576):aaO N x left kf=kf (j0 left (ah bY x)):=by
 have hs:ah bY x=ah (.sl (.int .i64)) x.2.2:=by simp[ah]
 rw[hs] at hN ⊢
 unfold aaO
 rw[Th hw.2.2 (by omega) h0 h1]
 by_cases c0:j0 left (ah (.sl (.int .i64)) x.2.2)<0
 ·rw[decide_eq_true c0,cond_true,rE h0 c0 (by omega)]
 rw[decide_eq_false c0,cond_false]
theorem avK {x:(List QJ)} {N:Nat} {left:Int} {kf:Int→Option aa} (hw:wf (.sl bY) x) (hN:ah (.sl bY) x<N) (h0:0≤left) (h1:left≤1048576):L85 N x left kf=kf (j0 left (ah (.sl bY) x)):=by
 have hl:=uO hw
 have hm:=ar
 have hs:=aO (t:=bY) x
 unfold L85
 rw[wrap64 (by omega) (by omega)]
 by_cases h:left - (x.length:Int)<0
 ·rw[decide_eq_true h,cond_true]
  unfold j0
  rw[if_neg (by omega)]
 ·rw[decide_eq_false h,cond_false,afx hl (by omega)]
  have hg:=Sx (g:=fun x s k=>aaO N x s k) (sz:=ah bY) (kf:=kf) x 0 (left - (x.length:Int)) (fun y hy s k b0 b1=>als (hw.2 y hy) (by have:=ba (t:=bY) hy;omega) b0 b1) (by omega) (by omega)
  refine Eq.trans hg ?_
  rw[W9 (by omega),H6 (t:=bY)]
theorem avL {x:(List a8)} {N:Nat} {left:Int} {kf:Int→Option aa} (hw:wf (.sl aP) x) (hN:ah (.sl aP) x<N) (h0:0≤left) (h1:left≤1048576):L86 N x left kf=kf (j0 left (ah (.sl aP) x)):=by
 have hl:=uO hw
 have hm:=ar
 have hs:=aO (t:=aP) x
 unfold L86
 rw[wrap64 (by omega) (by omega)]
 rw[gh (t:=aP) (by decide) x]
 unfold j0
 by_cases h:left - (x.length:Int)<0
 ·rw[decide_eq_true h,cond_true,if_neg (by omega)]
 ·rw[decide_eq_false h,cond_false,if_pos (by omega)]
theorem avM {x:(List QB)} {N:Nat} {left:Int} {kf:Int→Option aa} (hw:wf (.sl dh) x) (hN:ah (.sl dh) x<N) (h0:0≤left) (h1:left≤1048576):L88 N x left kf=kf (j0 left (ah (.sl dh) x)):=by
 have hl:=uO hw
 have hm:=ar
 have hs:=aO (t:=dh) x
 unfold L88
 rw[wrap64 (by omega) (by omega)]
 rw[gh (t:=dh) (by decide) x]
 unfold j0
 by_cases h:left - (x.length:Int)<0
 ·rw[decide_eq_true h,cond_true,if_neg (by omega)]
 ·rw[decide_eq_false h,cond_false,if_pos (by omega)]
theorem avN {x:(List QL)} {N:Nat} {left:Int} {kf:Int→Option aa} (hw:wf (.sl bW) x) (hN:ah (.sl bW) x<N) (h0:0≤left) (h1:left≤1048576):L89 N x left kf=kf (j0 left (ah (.sl bW) x)):=by
 have hl:=uO hw
 have hm:=ar
 have hs:=aO (t:=bW) x
 unfold L89
 rw[wrap64 (by omega) (by omega)]
 rw[gh (t:=bW) (by decide) x]
 unfold j0
 by_cases h:left - (x.length:Int)<0
 ·rw[decide_eq_true h,cond_true,if_neg (by omega)]
 ·rw[decide_eq_false h,cond_false,if_pos (by omega)]
theorem avO {x:QC} {N:Nat} {left:Int} {kf:Int→Option aa} (hw:wf bM x) (hN:ah bM x<N) (h0:0≤left) (h1:left≤1048576):L20 N x left kf=kf (j0 left (ah bM x)):=by
 have hs:ah bM x=ah (.sl bo) x.1+ah (.sl bY) x.2.1+ah (.sl aP) x.2.2.1+ah (.sl (.int .i64)) x.2.2.2.1+ah (.sl dh) x.2.2.2.2.1+ah (.sl bW) x.2.2.2.2.2.1:=by simp[ah];omega
 rw[hs] at hN ⊢
 unfold L20
 rw[avJ hw.1 (by omega) h0 h1]
 by_cases c0:j0 left (ah (.sl bo) x.1)<0
 ·rw[decide_eq_true c0,cond_true,rE h0 c0 (by omega)]
 rw[decide_eq_false c0,cond_false]
 obtain⟨p0,q0⟩:=lN h0 h1 c0
 rw[avK hw.2.1 (by omega) p0 q0,rD h0 c0]
 by_cases c1:j0 left (ah (.sl bo) x.1+ah (.sl bY) x.2.1)<0
 ·rw[decide_eq_true c1,cond_true,rE h0 c1 (by omega)]
 rw[decide_eq_false c1,cond_false]
 obtain⟨p1,q1⟩:=lN h0 h1 c1
 rw[avL hw.2.2.1 (by omega) p1 q1,rD h0 c1]
 by_cases c2:j0 left (ah (.sl bo) x.1+ah (.sl bY) x.2.1+ah (.sl aP) x.2.2.1)<0
 ·rw[decide_eq_true c2,cond_true,rE h0 c2 (by omega)]
 rw[decide_eq_false c2,cond_false]
 obtain⟨p2,q2⟩:=lN h0 h1 c2
 rw[Th hw.2.2.2.1 (by omega) p2 q2,rD h0 c2]
 by_cases c3:j0 left (ah (.sl bo) x.1+ah (.sl bY) x.2.1+ah (.sl aP) x.2.2.1+ah (.sl (.int .i64)) x.2.2.2.1)<0
 ·rw[decide_eq_true c3,cond_true,rE h0 c3 (by omega)]
 rw[decide_eq_false c3,cond_false]
 obtain⟨p3,q3⟩:=lN h0 h1 c3
 rw[avM hw.2.2.2.2.1 (by omega) p3 q3,rD h0 c3]
 by_cases c4:j0 left (ah (.sl bo) x.1+ah (.sl bY) x.2.1+ah (.sl aP) x.2.2.1+ah (.sl (.int .i64)) x.2.2.2.1+ah (.sl dh) x.2.2.2.2.1)<0
 ·rw[decide_eq_true c4,cond_true,rE h0 c4 (by omega)]
 rw[decide_eq_false c4,cond_false]
 obtain⟨p4,q4⟩:=lN h0 h1 c4
 rw[avN hw.2.2.2.2.2.1 (by omega) p4 q4,rD h0 c4]
 by_cases c5:j0 left (ah (.sl bo) x.1+ah (.sl bY) x.2.1+ah (.sl aP) x.2.2.1+ah (.sl (.int .i64)) x.2.2.2.1+ah (.sl dh) x.2.2.2.2.1+ah (.sl bW) x.2.2.2.2.2.1)<0
 ·rw[decide_eq_true c5,cond_true,rE h0 c5 (by omega)]
 rw[decide_eq_false c5,cond_false]
theorem Ti {x:(List Int)} {N:Nat} {kf:(List Int)→Option aa} (hN:ah (.sl (.int .i64)) x<N) (hb:ah (.sl (.int .i64)) x≤1048576):L98 N x kf=kf x:=by
 have hs:=aO (t:=(.int .i64)) x
 have hm:=ar
 unfold L98
 rw[uN (by omega),cond_true,afy (by omega) (by omega)]
 have hg:=rB (g:=fun x k=>k x) (bF:=kf) x 0 (List.replicate (Int.toNat (x.length:Int)) (0:Int)) (fun _ _ _=>rfl) (by simp)
 refine Eq.trans hg ?_
 simp
theorem alu {x:QT} {N:Nat} {kf:QT→Option aa} (hN:ah bo x<N) (hb:ah bo x≤1048576):aaP N x kf=kf x:=by
 have hs:ah bo x=ah (.sl (.int .i64)) x.2.2.2.2.2:=by simp[ah]
 rw[hs] at hN hb
 unfold aaP
 rw[Ti (by omega) (by omega)]
theorem avP {x:(List QT)} {N:Nat} {kf:(List QT)→Option aa} (hN:ah (.sl bo) x<N) (hb:ah (.sl bo) x≤1048576):L95 N x kf=kf x:=by
 have hs:=aO (t:=bo) x
 have hm:=ar
 unfold L95
 rw[uN (by omega),cond_true,afz (by omega) (by omega)]
 have hg:=rB (g:=fun x k=>aaP N x k) (bF:=kf) x 0 (List.replicate (Int.toNat (x.length:Int)) ((0:Int),((0:Int),((0:Int),((0:Int),((0:Int),([]:(List Int)))))))) (fun y hy k=>alu (by have:=ba (t:=bo) hy;omega) (by have:=ba (t:=bo) hy;omega)) (by simp)
 refine Eq.trans hg ?_
 simp
theorem alv {x:QJ} {N:Nat} {kf:QJ→Option aa} (hN:ah bY x<N) (hb:ah bY x≤1048576):aaQ N x kf=kf x:=by
 have hs:ah bY x=ah (.sl (.int .i64)) x.2.2:=by simp[ah]
 rw[hs] at hN hb
 unfold aaQ
 rw[Ti (by omega) (by omega)]
theorem avQ {x:(List QJ)} {N:Nat} {kf:(List QJ)→Option aa} (hN:ah (.sl bY) x<N) (hb:ah (.sl bY) x≤1048576):L96 N x kf=kf x:=by
 have hs:=aO (t:=bY) x
 have hm:=ar
 unfold L96
 rw[uN (by omega),cond_true,afA (by omega) (by omega)]
 have hg:=rB (g:=fun x k=>aaQ N x k) (bF:=kf) x 0 (List.replicate (Int.toNat (x.length:Int)) ((0:Int),((0:Int),([]:(List Int))))) (fun y hy k=>alv (by have:=ba (t:=bY) hy;omega) (by have:=ba (t:=bY) hy;omega)) (by simp)
 refine Eq.trans hg ?_
 simp
theorem alw {x:a8} {N:Nat} {kf:a8→Option aa} (hN:ah aP x<N) (hb:ah aP x≤1048576):aaR N x kf=kf x:=by
 have hs:ah aP x=0:=by simp[ah]
 rw[hs] at hN hb
 unfold aaR
 rfl
theorem avR {x:(List a8)} {N:Nat} {kf:(List a8)→Option aa} (hN:ah (.sl aP) x<N) (hb:ah (.sl aP) x≤1048576):L97 N x kf=kf x:=by
 have hs:=aO (t:=aP) x
 have hm:=ar
 unfold L97
 rw[uN (by omega),cond_true,afB (by omega) (by omega)]
 have hg:=rB (g:=fun x k=>aaR N x k) (bF:=kf) x 0 (List.replicate (Int.toNat (x.length:Int)) ((0:Int),(0:Int))) (fun y hy k=>alw (by have:=ba (t:=aP) hy;omega) (by have:=ba (t:=aP) hy;omega)) (by simp)
 refine Eq.trans hg ?_
 simp
theorem alx {x:QB} {N:Nat} {kf:QB→Option aa} (hN:ah dh x<N) (hb:ah dh x≤1048576):aaS N x kf=kf x:=by
 have hs:ah dh x=0:=by simp[ah]
 rw[hs] at hN hb
 unfold aaS
 rfl
theorem avS {x:(List QB)} {N:Nat} {kf:(List QB)→Option aa} (hN:ah (.sl dh) x<N) (hb:ah (.sl dh) x≤1048576):L99 N x kf=kf x:=by
 have hs:=aO (t:=dh) x
 have hm:=ar
 unfold L99
 rw[uN (by omega),cond_true,afC (by omega) (by omega)]
 have hg:=rB (g:=fun x k=>aaS N x k) (bF:=kf) x 0 (List.replicate (Int.toNat (x.length:Int)) ((0:Int),((0:Int),(0:Int)))) (fun y hy k=>alx (by have:=ba (t:=dh) hy;omega) (by have:=ba (t:=dh) hy;omega)) (by simp)
 refine Eq.trans hg ?_
 simp
theorem aly {x:QL} {N:Nat} {kf:QL→Option aa} (hN:ah bW x<N) (hb:ah bW x≤1048576):aaT N x kf=kf x:=by
 have hs:ah bW x=0:=by simp[ah]
 rw[hs] at hN hb
 unfold aaT
 rfl
theorem alz {x:(List QL)} {N:Nat} {kf:(List QL)→Option aa} (hN:ah (.sl bW) x<N) (hb:ah (.sl bW) x≤1048576):ak6 N x kf=kf x:=by
 have hs:=aO (t:=bW) x
 have hm:=ar
 unfold ak6
 rw[uN (by omega),cond_true,abd (by omega) (by omega)]
 have hg:=rB (g:=fun x k=>aaT N x k) (bF:=kf) x 0 (List.replicate (Int.toNat (x.length:Int)) ((0:Int),((0:Int),((0:Int),(0:Int))))) (fun y hy k=>aly (by have:=ba (t:=bW) hy;omega) (by have:=ba (t:=bW) hy;omega)) (by simp)
 refine Eq.trans hg ?_
 simp
theorem avT {x:QC} {N:Nat} {kf:QC→Option aa} (hN:ah bM x<N) (hb:ah bM x≤1048576):L22 N x kf=kf x:=by
 have hs:ah bM x=ah (.sl bo) x.1+ah (.sl bY) x.2.1+ah (.sl aP) x.2.2.1+ah (.sl (.int .i64)) x.2.2.2.1+ah (.sl dh) x.2.2.2.2.1+ah (.sl bW) x.2.2.2.2.2.1:=by simp[ah];omega
 rw[hs] at hN hb
 unfold L22
 rw[avP (by omega) (by omega)]
 rw[avQ (by omega) (by omega)]
 rw[avR (by omega) (by omega)]
 rw[Ti (by omega) (by omega)]
 rw[avS (by omega) (by omega)]
 rw[alz (by omega) (by omega)]
theorem JB {x:(List Int)} {N:Nat} {kf:Bool→Option aa} (hN:ah (.sl (.int .i64)) x<N) (hw:ah (.sl (.int .i64)) x≤2097152):aaX N x x kf=kf true:=by
 have hs:=aO (t:=(.int .i64)) x
 have hm:=ar
 unfold aaX
 simp only[bne_self_eq_false,cond_false]
 rw[abw (by omega) (by omega)]
 refine rC (l:=x) (fun i y next h e=>?_) x 0 rfl
 simp only[an h,Int.toNat_natCast,ai _ i h,e,cond_true]
 simp
theorem alA {x:QT} {N:Nat} {kf:Bool→Option aa} (hN:ah bo x<N) (hw:ah bo x≤2097152):ae2 N x x kf=kf true:=by
 have hs:ah bo x=ah (.sl (.int .i64)) x.2.2.2.2.2:=by simp[ah]
 rw[hs] at hN hw
 unfold ae2
 simp only[bne_self_eq_false,cond_false]
 rw[JB (by omega) (by omega)]
 simp only[Bool.not_true,bne_self_eq_false,cond_false]
theorem alB {x:(List QT)} {N:Nat} {kf:Bool→Option aa} (hN:ah (.sl bo) x<N) (hw:ah (.sl bo) x≤2097152):ale N x x kf=kf true:=by
 have hs:=aO (t:=bo) x
 have hm:=ar
 unfold ale
 simp only[bne_self_eq_false,cond_false]
 rw[abx (by omega) (by omega)]
 refine rC (l:=x) (fun i y next h e=>?_) x 0 rfl
 simp only[an h,Int.toNat_natCast,ai _ i h,e,cond_true]
 have hy:y∈x:=by rw[←e];exact List.getElem_mem h
 rw[alA (by have:=ba (t:=bo) hy;omega) (by have:=ba (t:=bo) hy;omega)]
 simp
theorem alC {x:QJ} {N:Nat} {kf:Bool→Option aa} (hN:ah bY x<N) (hw:ah bY x≤2097152):ae3 N x x kf=kf true:=by
 have hs:ah bY x=ah (.sl (.int .i64)) x.2.2:=by simp[ah]
 rw[hs] at hN hw
 unfold ae3
 simp only[bne_self_eq_false,cond_false]
 rw[JB (by omega) (by omega)]
 simp only[Bool.not_true,bne_self_eq_false,cond_false]
theorem alD {x:(List QJ)} {N:Nat} {kf:Bool→Option aa} (hN:ah (.sl bY) x<N) (hw:ah (.sl bY) x≤2097152):alf N x x kf=kf true:=by
 have hs:=aO (t:=bY) x
 have hm:=ar
 unfold alf
 simp only[bne_self_eq_false,cond_false]
 rw[aby (by omega) (by omega)]
 refine rC (l:=x) (fun i y next h e=>?_) x 0 rfl
 simp only[an h,Int.toNat_natCast,ai _ i h,e,cond_true]
 have hy:y∈x:=by rw[←e];exact List.getElem_mem h
 rw[alC (by have:=ba (t:=bY) hy;omega) (by have:=ba (t:=bY) hy;omega)]
 simp
theorem alE {x:a8} {N:Nat} {kf:Bool→Option aa} (hN:ah aP x<N) (hw:ah aP x≤2097152):ae4 N x x kf=kf true:=by
 have hs:ah aP x=0:=by simp[ah]
 rw[hs] at hN hw
 unfold ae4
 simp only[bne_self_eq_false,cond_false]
theorem alF {x:(List a8)} {N:Nat} {kf:Bool→Option aa} (hN:ah (.sl aP) x<N) (hw:ah (.sl aP) x≤2097152):alg N x x kf=kf true:=by
 have hs:=aO (t:=aP) x
 have hm:=ar
 unfold alg
 simp only[bne_self_eq_false,cond_false]
 rw[abz (by omega) (by omega)]
 refine rC (l:=x) (fun i y next h e=>?_) x 0 rfl
 simp only[an h,Int.toNat_natCast,ai _ i h,e,cond_true]
 have hy:y∈x:=by rw[←e];exact List.getElem_mem h
 rw[alE (by have:=ba (t:=aP) hy;omega) (by have:=ba (t:=aP) hy;omega)]
 simp
theorem alG {x:QB} {N:Nat} {kf:Bool→Option aa} (hN:ah dh x<N) (hw:ah dh x≤2097152):ae5 N x x kf=kf true:=by
 have hs:ah dh x=0:=by simp[ah]
 rw[hs] at hN hw
 unfold ae5
 simp only[bne_self_eq_false,cond_false]
theorem alH {x:(List QB)} {N:Nat} {kf:Bool→Option aa} (hN:ah (.sl dh) x<N) (hw:ah (.sl dh) x≤2097152):alh N x x kf=kf true:=by
 have hs:=aO (t:=dh) x
 have hm:=ar
 unfold alh
 simp only[bne_self_eq_false,cond_false]
 rw[abA (by omega) (by omega)]
 refine rC (l:=x) (fun i y next h e=>?_) x 0 rfl
 simp only[an h,Int.toNat_natCast,ai _ i h,e,cond_true]
 have hy:y∈x:=by rw[←e];exact List.getElem_mem h
 rw[alG (by have:=ba (t:=dh) hy;omega) (by have:=ba (t:=dh) hy;omega)]
 simp
theorem alI {x:QL} {N:Nat} {kf:Bool→Option aa} (hN:ah bW x<N) (hw:ah bW x≤2097152):ae6 N x x kf=kf true:=by
 have hs:ah bW x=0:=by simp[ah]
 rw[hs] at hN hw
 unfold ae6
 simp only[bne_self_eq_false,cond_false]
theorem alJ {x:(List QL)} {N:Nat} {kf:Bool→Option aa} (hN:ah (.sl bW) x<N) (hw:ah (.sl bW) x≤2097152):ali N x x kf=kf true:=by
 have hs:=aO (t:=bW) x
 have hm:=ar
 unfold ali
 simp only[bne_self_eq_false,cond_false]
 rw[abB (by omega) (by omega)]
 refine rC (l:=x) (fun i y next h e=>?_) x 0 rfl
 simp only[an h,Int.toNat_natCast,ai _ i h,e,cond_true]
 have hy:y∈x:=by rw[←e];exact List.getElem_mem h
 rw[alI (by have:=ba (t:=bW) hy;omega) (by have:=ba (t:=bW) hy;omega)]
 simp
theorem afI {x:QC} {N:Nat} {kf:Bool→Option aa} (hN:ah bM x<N) (hw:ah bM x≤2097152):L24 N x x kf=kf true:=by
 have hs:ah bM x=ah (.sl bo) x.1+ah (.sl bY) x.2.1+ah (.sl aP) x.2.2.1+ah (.sl (.int .i64)) x.2.2.2.1+ah (.sl dh) x.2.2.2.2.1+ah (.sl bW) x.2.2.2.2.2.1:=by simp[ah];omega
 rw[hs] at hN hw
 unfold L24
 simp only[bne_self_eq_false,cond_false]
 rw[alB (by omega) (by omega)]
 simp only[Bool.not_true,bne_self_eq_false,cond_false]
 rw[alD (by omega) (by omega)]
 simp only[Bool.not_true,bne_self_eq_false,cond_false]
 rw[alF (by omega) (by omega)]
 simp only[Bool.not_true,bne_self_eq_false,cond_false]
 rw[JB (by omega) (by omega)]
 simp only[Bool.not_true,bne_self_eq_false,cond_false]
 rw[alH (by omega) (by omega)]
 simp only[Bool.not_true,bne_self_eq_false,cond_false]
 rw[alJ (by omega) (by omega)]
 simp only[Bool.not_true,bne_self_eq_false,cond_false]
theorem JC {x:(List Int)} {N:Nat} {k:Int} {kf:Int→(List Int)→Option aa} (hN:ah (.sl (.int .i64)) x<N) (hS:ah (.sl (.int .i64)) x≤1152921504606846976) (h0:0≤k) (hB:(aJ (aH (.int .i64)) x k).2≤4611686018427387904):ae7 N x k kf=kf (aJ (aH (.int .i64)) x k).2 (aJ (aH (.int .i64)) x k).1:=by
 have hs:=aO (t:=(.int .i64)) x
 have:=gk (f:=aH (.int .i64)) (B:=4611686018427387904) (Q:=fun y=>y∈x) (L:=fun n xs k i=>sO n (fun z k=>kf k z) xs k i) (bF:=fun xs k=>kf k xs) (m0:=x.length) (ef _) (fun n xs k i h hm hq h0 hb=>by
   simp only[sO]
   rw[decide_eq_true (show(i:Int)<(xs.length:Int) by omega)]
   simp only[bE,bq,bX] at hb
   simp only[cond_true,an h,Int.toNat_natCast,share,List.length_set,set_set,l9 _ _ h,ai _ i h]
   simp (disch:=omega) only[bE,bq,bX,wrap64]
   rfl) (fun n xs k=>by
   simp only[sO]
   rw[decide_eq_false (by omega)]
   rfl) x [] N k (by simp) (fun _ h=>h) (by omega) h0 hB
 exact this
theorem alK {x:(List QT)} {N:Nat} {k:Int} {kf:Int→(List QT)→Option aa} (hN:ah (.sl bo) x<N) (hS:ah (.sl bo) x≤1152921504606846976) (h0:0≤k) (hB:(aJ (aH bo) x k).2≤4611686018427387904):avm N x k kf=kf (aJ (aH bo) x k).2 (aJ (aH bo) x k).1:=by
 have hs:=aO (t:=bo) x
 have:=gk (f:=aH bo) (B:=4611686018427387904) (Q:=fun y=>y∈x) (L:=fun n xs k i=>sQ N n (fun z k=>kf k z) xs k i) (bF:=fun xs k=>kf k xs) (m0:=x.length) (ef _) (fun n xs k i h hm hq h0 hb=>by
   simp only[sQ]
   rw[decide_eq_true (show(i:Int)<(xs.length:Int) by omega)]
   simp only[bE,bq,bX] at hb
   simp only[cond_true,an h,Int.toNat_natCast,share,List.length_set,set_set,l9 _ _ h,ai _ i h]
   have hg:=dq (t:=(.int .i64)) xs[i].2.2.2.2.2 (k+1+1+1+1+1)
   try simp (disch:=omega) only[wrap64]
   have hz:=ba (t:=bo) hq
   have hy:ah (.sl (.int .i64)) xs[i].2.2.2.2.2≤ah bo xs[i]:=by simp[ah]
   rw[JC (by omega) (by omega) (by omega) (by omega)]
   simp (disch:=omega) only[bE,bq,bX,wrap64]
   rfl) (fun n xs k=>by
   simp only[sQ]
   rw[decide_eq_false (by omega)]
   rfl) x [] N k (by simp) (fun _ h=>h) (by omega) h0 hB
 exact this
theorem alL {x:(List QJ)} {N:Nat} {k:Int} {kf:Int→(List QJ)→Option aa} (hN:ah (.sl bY) x<N) (hS:ah (.sl bY) x≤1152921504606846976) (h0:0≤k) (hB:(aJ (aH bY) x k).2≤4611686018427387904):avn N x k kf=kf (aJ (aH bY) x k).2 (aJ (aH bY) x k).1:=by
 have hs:=aO (t:=bY) x
 have:=gk (f:=aH bY) (B:=4611686018427387904) (Q:=fun y=>y∈x) (L:=fun n xs k i=>sR N n (fun z k=>kf k z) xs k i) (bF:=fun xs k=>kf k xs) (m0:=x.length) (ef _) (fun n xs k i h hm hq h0 hb=>by
   simp only[sR]
   rw[decide_eq_true (show(i:Int)<(xs.length:Int) by omega)]
   simp only[bE,bq,bX] at hb
   simp only[cond_true,an h,Int.toNat_natCast,share,List.length_set,set_set,l9 _ _ h,ai _ i h]
   have hg:=dq (t:=(.int .i64)) xs[i].2.2 (k+1+1)
   try simp (disch:=omega) only[wrap64]
   have hz:=ba (t:=bY) hq
   have hy:ah (.sl (.int .i64)) xs[i].2.2≤ah bY xs[i]:=by simp[ah]
   rw[JC (by omega) (by omega) (by omega) (by omega)]
   simp (disch:=omega) only[bE,bq,bX,wrap64]
   rfl) (fun n xs k=>by
   simp only[sR]
   rw[decide_eq_false (by omega)]
   rfl) x [] N k (by simp) (fun _ h=>h) (by omega) h0 hB
 exact this
theorem alM {x:(List a8)} {N:Nat} {k:Int} {kf:Int→(List a8)→Option aa} (hN:ah (.sl aP) x<N) (hS:ah (.sl aP) x≤1152921504606846976) (h0:0≤k) (hB:(aJ (aH aP) x k).2≤4611686018427387904):avo N x k kf=kf (aJ (aH aP) x k).2 (aJ (aH aP) x k).1:=by
 have hs:=aO (t:=aP) x
 have:=gk (f:=aH aP) (B:=4611686018427387904) (Q:=fun y=>y∈x) (L:=fun n xs k i=>sS n (fun z k=>kf k z) xs k i) (bF:=fun xs k=>kf k xs) (m0:=x.length) (ef _) (fun n xs k i h hm hq h0 hb=>by
   simp only[sS]
   rw[decide_eq_true (show(i:Int)<(xs.length:Int) by omega)]
   simp only[bE,bq,bX] at hb
   simp only[cond_true,an h,Int.toNat_natCast,share,List.length_set,set_set,l9 _ _ h,ai _ i h]
   simp (disch:=omega) only[bE,bq,bX,wrap64]
   rfl) (fun n xs k=>by
   simp only[sS]
   rw[decide_eq_false (by omega)]
   rfl) x [] N k (by simp) (fun _ h=>h) (by omega) h0 hB
 exact this
theorem alN {x:(List QB)} {N:Nat} {k:Int} {kf:Int→(List QB)→Option aa} (hN:ah (.sl dh) x<N) (hS:ah (.sl dh) x≤1152921504606846976) (h0:0≤k) (hB:(aJ (aH dh) x k).2≤4611686018427387904):avp N x k kf=kf (aJ (aH dh) x k).2 (aJ (aH dh) x k).1:=by
 have hs:=aO (t:=dh) x
 have:=gk (f:=aH dh) (B:=4611686018427387904) (Q:=fun y=>y∈x) (L:=fun n xs k i=>sU n (fun z k=>kf k z) xs k i) (bF:=fun xs k=>kf k xs) (m0:=x.length) (ef _) (fun n xs k i h hm hq h0 hb=>by
   simp only[sU]
   rw[decide_eq_true (show(i:Int)<(xs.length:Int) by omega)]
   simp only[bE,bq,bX] at hb
   simp only[cond_true,an h,Int.toNat_natCast,share,List.length_set,set_set,l9 _ _ h,ai _ i h]
   simp (disch:=omega) only[bE,bq,bX,wrap64]
   rfl) (fun n xs k=>by
   simp only[sU]
   rw[decide_eq_false (by omega)]
   rfl) x [] N k (by simp) (fun _ h=>h) (by omega) h0 hB
 exact this
theorem alO {x:(List QL)} {N:Nat} {k:Int} {kf:Int→(List QL)→Option aa} (hN:ah (.sl bW) x<N) (hS:ah (.sl bW) x≤1152921504606846976) (h0:0≤k) (hB:(aJ (aH bW) x k).2≤4611686018427387904):avq N x k kf=kf (aJ (aH bW) x k).2 (aJ (aH bW) x k).1:=by
 have hs:=aO (t:=bW) x
 have:=gk (f:=aH bW) (B:=4611686018427387904) (Q:=fun y=>y∈x) (L:=fun n xs k i=>sV n (fun z k=>kf k z) xs k i) (bF:=fun xs k=>kf k xs) (m0:=x.length) (ef _) (fun n xs k i h hm hq h0 hb=>by
   simp only[sV]
   rw[decide_eq_true (show(i:Int)<(xs.length:Int) by omega)]
   simp only[bE,bq,bX] at hb
   simp only[cond_true,an h,Int.toNat_natCast,share,List.length_set,set_set,l9 _ _ h,ai _ i h]
   simp (disch:=omega) only[bE,bq,bX,wrap64]
   rfl) (fun n xs k=>by
   simp only[sV]
   rw[decide_eq_false (by omega)]
   rfl) x [] N k (by simp) (fun _ h=>h) (by omega) h0 hB
 exact this
theorem afJ {x:QC} {N:Nat} {k:Int} {kf:Int→QC→Option aa} (hN:ah bM x<N) (hS:ah bM x≤1152921504606846976) (h0:0≤k) (hB:(cB bM x k).2≤4611686018427387904):L25 N x k kf=kf (cB bM x k).2 (cB bM x k).1:=by
 have hs:ah bM x=ah (.sl bo) x.1+ah (.sl bY) x.2.1+ah (.sl aP) x.2.2.1+ah (.sl (.int .i64)) x.2.2.2.1+ah (.sl dh) x.2.2.2.2.1+ah (.sl bW) x.2.2.2.2.2.1:=by simp[ah];omega
 rw[hs] at hN hS
 simp only[cB] at hB ⊢
 unfold L25
 have g0:=dq (t:=bo) x.1 k
 have g1:=dq (t:=bY) x.2.1 ((aJ (aH bo) x.1 k).2)
 have g2:=dq (t:=aP) x.2.2.1 ((aJ (aH bY) x.2.1 ((aJ (aH bo) x.1 k).2)).2)
 have g3:=dq (t:=(.int .i64)) x.2.2.2.1 ((aJ (aH aP) x.2.2.1 ((aJ (aH bY) x.2.1 ((aJ (aH bo) x.1 k).2)).2)).2)
 have g4:=dq (t:=dh) x.2.2.2.2.1 ((aJ (aH (.int .i64)) x.2.2.2.1 ((aJ (aH aP) x.2.2.1 ((aJ (aH bY) x.2.1 ((aJ (aH bo) x.1 k).2)).2)).2)).2)
 have g5:=dq (t:=bW) x.2.2.2.2.2.1 ((aJ (aH dh) x.2.2.2.2.1 ((aJ (aH (.int .i64)) x.2.2.2.1 ((aJ (aH aP) x.2.2.1 ((aJ (aH bY) x.2.1 ((aJ (aH bo) x.1 k).2)).2)).2)).2)).2)
 rw[alK (by omega) (by omega) (by omega) (by omega)]
 rw[alL (by omega) (by omega) (by omega) (by omega)]
 rw[alM (by omega) (by omega) (by omega) (by omega)]
 rw[JC (by omega) (by omega) (by omega) (by omega)]
 rw[alN (by omega) (by omega) (by omega) (by omega)]
 rw[alO (by omega) (by omega) (by omega) (by omega)]
theorem JD {x:(List Int)} {N:Nat} {k:Int} {kf:Int→Option aa} (hN:ah (.sl (.int .i64)) x<N) (hS:ah (.sl (.int .i64)) x≤1152921504606846976) (h0:0≤k) (hB:(aJ (aH (.int .i64)) x k).2≤4611686018427387904):ae9 N (aJ (aH (.int .i64)) x k).1 k kf=kf (aJ (aH (.int .i64)) x k).2:=by
 have hs:=aO (t:=(.int .i64)) x
 have hl:=jM (aH (.int .i64)) x k
 have:=ik (f:=aH (.int .i64)) (B:=4611686018427387904) (Q:=fun y=>y∈x) (xs':=(aJ (aH (.int .i64)) x k).1) (L:=fun n k2 i=>sW (aJ (aH (.int .i64)) x k).1 n kf kf k2 i) (bF:=kf) (ef _) (fun n k1 i h y hq hy h0 hb=>by
   simp only[sW]
   rw[decide_eq_true (show(i:Int)<((aJ (aH (.int .i64)) x k).1.length:Int) by omega)]
   simp only[bE,bq,bX] at hb hy
   try simp (disch:=omega) only[wrap64] at hy
   simp only[cond_true,an h,Int.toNat_natCast,ai _ i h,hy]
   try simp (disch:=omega) only[wrap64,bne_self_eq_false,cond_false]
   simp (disch:=omega) only[bE,bq,bX,wrap64]
   rfl) (fun n k1=>by
   simp only[sW]
   rw[decide_eq_false (by omega)]
   rfl) x [] N k rfl (fun _ h=>h) (by omega) h0 hB
 exact this
theorem alP {x:(List QT)} {N:Nat} {k:Int} {kf:Int→Option aa} (hN:ah (.sl bo) x<N) (hS:ah (.sl bo) x≤1152921504606846976) (h0:0≤k) (hB:(aJ (aH bo) x k).2≤4611686018427387904):avs N (aJ (aH bo) x k).1 k kf=kf (aJ (aH bo) x k).2:=by
 have hs:=aO (t:=bo) x
 have hl:=jM (aH bo) x k
 have:=ik (f:=aH bo) (B:=4611686018427387904) (Q:=fun y=>y∈x) (xs':=(aJ (aH bo) x k).1) (L:=fun n k2 i=>sX N (aJ (aH bo) x k).1 n kf kf k2 i) (bF:=kf) (ef _) (fun n k1 i h y hq hy h0 hb=>by
   simp only[sX]
   rw[decide_eq_true (show(i:Int)<((aJ (aH bo) x k).1.length:Int) by omega)]
   simp only[bE,bq,bX] at hb hy
   have hg:=dq (t:=(.int .i64)) y.2.2.2.2.2 (k1+1+1+1+1+1)
   have hz:=ba (t:=bo) hq
   have hw:ah (.sl (.int .i64)) y.2.2.2.2.2≤ah bo y:=by simp[ah]
   try simp (disch:=omega) only[wrap64] at hy
   simp only[cond_true,an h,Int.toNat_natCast,ai _ i h,hy]
   try simp (disch:=omega) only[wrap64,bne_self_eq_false,cond_false]
   rw[JD (by omega) (by omega) (by omega) (by omega),decide_eq_false (by omega),cond_false]
   simp (disch:=omega) only[bE,bq,bX,wrap64]
   rfl) (fun n k1=>by
   simp only[sX]
   rw[decide_eq_false (by omega)]
   rfl) x [] N k rfl (fun _ h=>h) (by omega) h0 hB
 exact this
theorem alQ {x:(List QJ)} {N:Nat} {k:Int} {kf:Int→Option aa} (hN:ah (.sl bY) x<N) (hS:ah (.sl bY) x≤1152921504606846976) (h0:0≤k) (hB:(aJ (aH bY) x k).2≤4611686018427387904):avt N (aJ (aH bY) x k).1 k kf=kf (aJ (aH bY) x k).2:=by
 have hs:=aO (t:=bY) x
 have hl:=jM (aH bY) x k
 have:=ik (f:=aH bY) (B:=4611686018427387904) (Q:=fun y=>y∈x) (xs':=(aJ (aH bY) x k).1) (L:=fun n k2 i=>sY N (aJ (aH bY) x k).1 n kf kf k2 i) (bF:=kf) (ef _) (fun n k1 i h y hq hy h0 hb=>by
   simp only[sY]
   rw[decide_eq_true (show(i:Int)<((aJ (aH bY) x k).1.length:Int) by omega)]
   simp only[bE,bq,bX] at hb hy
   have hg:=dq (t:=(.int .i64)) y.2.2 (k1+1+1)
   have hz:=ba (t:=bY) hq
   have hw:ah (.sl (.int .i64)) y.2.2≤ah bY y:=by simp[ah]
   try simp (disch:=omega) only[wrap64] at hy
   simp only[cond_true,an h,Int.toNat_natCast,ai _ i h,hy]
   try simp (disch:=omega) only[wrap64,bne_self_eq_false,cond_false]
   rw[JD (by omega) (by omega) (by omega) (by omega),decide_eq_false (by omega),cond_false]
   simp (disch:=omega) only[bE,bq,bX,wrap64]
   rfl) (fun n k1=>by
   simp only[sY]
   rw[decide_eq_false (by omega)]
   rfl) x [] N k rfl (fun _ h=>h) (by omega) h0 hB
 exact this
theorem alR {x:(List a8)} {N:Nat} {k:Int} {kf:Int→Option aa} (hN:ah (.sl aP) x<N) (hS:ah (.sl aP) x≤1152921504606846976) (h0:0≤k) (hB:(aJ (aH aP) x k).2≤4611686018427387904):avu N (aJ (aH aP) x k).1 k kf=kf (aJ (aH aP) x k).2:=by
 have hs:=aO (t:=aP) x
 have hl:=jM (aH aP) x k
 have:=ik (f:=aH aP) (B:=4611686018427387904) (Q:=fun y=>y∈x) (xs':=(aJ (aH aP) x k).1) (L:=fun n k2 i=>sZ (aJ (aH aP) x k).1 n kf kf k2 i) (bF:=kf) (ef _) (fun n k1 i h y hq hy h0 hb=>by
   simp only[sZ]
   rw[decide_eq_true (show(i:Int)<((aJ (aH aP) x k).1.length:Int) by omega)]
   simp only[bE,bq,bX] at hb hy
   try simp (disch:=omega) only[wrap64] at hy
   simp only[cond_true,an h,Int.toNat_natCast,ai _ i h,hy]
   try simp (disch:=omega) only[wrap64,bne_self_eq_false,cond_false]
   simp (disch:=omega) only[bE,bq,bX,wrap64]
   rfl) (fun n k1=>by
   simp only[sZ]
   rw[decide_eq_false (by omega)]
   rfl) x [] N k rfl (fun _ h=>h) (by omega) h0 hB
 exact this
theorem alS {x:(List QB)} {N:Nat} {k:Int} {kf:Int→Option aa} (hN:ah (.sl dh) x<N) (hS:ah (.sl dh) x≤1152921504606846976) (h0:0≤k) (hB:(aJ (aH dh) x k).2≤4611686018427387904):avv N (aJ (aH dh) x k).1 k kf=kf (aJ (aH dh) x k).2:=by
 have hs:=aO (t:=dh) x
 have hl:=jM (aH dh) x k
 have:=ik (f:=aH dh) (B:=4611686018427387904) (Q:=fun y=>y∈x) (xs':=(aJ (aH dh) x k).1) (L:=fun n k2 i=>s4 (aJ (aH dh) x k).1 n kf kf k2 i) (bF:=kf) (ef _) (fun n k1 i h y hq hy h0 hb=>by
   simp only[s4]
   rw[decide_eq_true (show(i:Int)<((aJ (aH dh) x k).1.length:Int) by omega)]
   simp only[bE,bq,bX] at hb hy
   try simp (disch:=omega) only[wrap64] at hy
   simp only[cond_true,an h,Int.toNat_natCast,ai _ i h,hy]
   try simp (disch:=omega) only[wrap64,bne_self_eq_false,cond_false]
   simp (disch:=omega) only[bE,bq,bX,wrap64]
   rfl) (fun n k1=>by
   simp only[s4]
   rw[decide_eq_false (by omega)]
   rfl) x [] N k rfl (fun _ h=>h) (by omega) h0 hB
 exact this
theorem alT {x:(List QL)} {N:Nat} {k:Int} {kf:Int→Option aa} (hN:ah (.sl bW) x<N) (hS:ah (.sl bW) x≤1152921504606846976) (h0:0≤k) (hB:(aJ (aH bW) x k).2≤4611686018427387904):avw N (aJ (aH bW) x k).1 k kf=kf (aJ (aH bW) x k).2:=by
 have hs:=aO (t:=bW) x
 have hl:=jM (aH bW) x k
 have:=ik (f:=aH bW) (B:=4611686018427387904) (Q:=fun y=>y∈x) (xs':=(aJ (aH bW) x k).1) (L:=fun n k2 i=>s5 (aJ (aH bW) x k).1 n kf kf k2 i) (bF:=kf) (ef _) (fun n k1 i h y hq hy h0 hb=>by
   simp only[s5]
   rw[decide_eq_true (show(i:Int)<((aJ (aH bW) x k).1.length:Int) by omega)]
   simp only[bE,bq,bX] at hb hy
   try simp (disch:=omega) only[wrap64] at hy
   simp only[cond_true,an h,Int.toNat_natCast,ai _ i h,hy]
   try simp (disch:=omega) only[wrap64,bne_self_eq_false,cond_false]
   simp (disch:=omega) only[bE,bq,bX,wrap64]
   rfl) (fun n k1=>by
   simp only[s5]
   rw[decide_eq_false (by omega)]
   rfl) x [] N k rfl (fun _ h=>h) (by omega) h0 hB
 exact this
theorem avU {x:QC} {N:Nat} {k:Int} {kf:Int→Option aa} (hN:ah bM x<N) (hS:ah bM x≤1152921504606846976) (h0:0≤k) (hB:(cB bM x k).2≤4611686018427387904):L26 N (cB bM x k).1 k kf=kf (cB bM x k).2:=by
 have hs:ah bM x=ah (.sl bo) x.1+ah (.sl bY) x.2.1+ah (.sl aP) x.2.2.1+ah (.sl (.int .i64)) x.2.2.2.1+ah (.sl dh) x.2.2.2.2.1+ah (.sl bW) x.2.2.2.2.2.1:=by simp[ah];omega
 rw[hs] at hN hS
 simp only[cB] at hB ⊢
 unfold L26
 have g0:=dq (t:=bo) x.1 k
 have g1:=dq (t:=bY) x.2.1 ((aJ (aH bo) x.1 k).2)
 have g2:=dq (t:=aP) x.2.2.1 ((aJ (aH bY) x.2.1 ((aJ (aH bo) x.1 k).2)).2)
 have g3:=dq (t:=(.int .i64)) x.2.2.2.1 ((aJ (aH aP) x.2.2.1 ((aJ (aH bY) x.2.1 ((aJ (aH bo) x.1 k).2)).2)).2)
 have g4:=dq (t:=dh) x.2.2.2.2.1 ((aJ (aH (.int .i64)) x.2.2.2.1 ((aJ (aH aP) x.2.2.1 ((aJ (aH bY) x.2.1 ((aJ (aH bo) x.1 k).2)).2)).2)).2)
 have g5:=dq (t:=bW) x.2.2.2.2.2.1 ((aJ (aH dh) x.2.2.2.2.1 ((aJ (aH (.int .i64)) x.2.2.2.1 ((aJ (aH aP) x.2.2.1 ((aJ (aH bY) x.2.1 ((aJ (aH bo) x.1 k).2)).2)).2)).2)).2)
 rw[alP (by omega) (by omega) (by omega) (by omega)]
 rw[decide_eq_false (by omega),cond_false]
 rw[alQ (by omega) (by omega) (by omega) (by omega)]
 rw[decide_eq_false (by omega),cond_false]
 rw[alR (by omega) (by omega) (by omega) (by omega)]
 rw[decide_eq_false (by omega),cond_false]
 rw[JD (by omega) (by omega) (by omega) (by omega)]
 rw[decide_eq_false (by omega),cond_false]
 rw[alS (by omega) (by omega) (by omega) (by omega)]
 rw[decide_eq_false (by omega),cond_false]
 rw[alT (by omega) (by omega) (by omega) (by omega)]
 rw[decide_eq_false (by omega),cond_false]
theorem avV {x:QL} {N:Nat} {kf:QL→Option aa} (hN:ah bW x<N) (hb:ah bW x≤1048576):L61 N x kf=kf x:=by
 have hs:ah bW x=0:=by simp[ah]
 rw[hs] at hN hb
 unfold L61
 rfl
theorem avW {x:(List QL)} {N:Nat} {left:Int} {kf:Int→Option aa} (hw:wf (.sl bW) x) (hN:ah (.sl bW) x<N) (h0:0≤left) (h1:left≤1048576):L62 N x left kf=kf (j0 left (ah (.sl bW) x)):=by
 have hl:=uO hw
 have hm:=ar
 have hs:=aO (t:=bW) x
 unfold L62
 rw[wrap64 (by omega) (by omega)]
 rw[gh (t:=bW) (by decide) x]
 unfold j0
 by_cases h:left - (x.length:Int)<0
 ·rw[decide_eq_true h,cond_true,if_neg (by omega)]
 ·rw[decide_eq_false h,cond_false,if_pos (by omega)]
theorem avX {x:(List QL)} {N:Nat} {kf:(List QL)→Option aa} (hN:ah (.sl bW) x<N) (hb:ah (.sl bW) x≤1048576):L64 N x kf=kf x:=by
 have hs:=aO (t:=bW) x
 have hm:=ar
 unfold L64
 rw[uN (by omega),cond_true,afG (by omega) (by omega)]
 have hg:=rB (g:=fun x k=>L61 N x k) (bF:=kf) x 0 (List.replicate (Int.toNat (x.length:Int)) ((0:Int),((0:Int),((0:Int),(0:Int))))) (fun y hy k=>avV (by have:=ba (t:=bW) hy;omega) (by have:=ba (t:=bW) hy;omega)) (by simp)
 refine Eq.trans hg ?_
 simp
theorem alU {x:QL} {N:Nat} {kf:Bool→Option aa} (hN:ah bW x<N) (hw:ah bW x≤2097152):afe N x x kf=kf true:=by
 have hs:ah bW x=0:=by simp[ah]
 rw[hs] at hN hw
 unfold afe
 simp only[bne_self_eq_false,cond_false]
theorem avY {x:(List QL)} {N:Nat} {kf:Bool→Option aa} (hN:ah (.sl bW) x<N) (hw:ah (.sl bW) x≤2097152):L65 N x x kf=kf true:=by
 have hs:=aO (t:=bW) x
 have hm:=ar
 unfold L65
 simp only[bne_self_eq_false,cond_false]
 rw[afH (by omega) (by omega)]
 refine rC (l:=x) (fun i y next h e=>?_) x 0 rfl
 simp only[an h,Int.toNat_natCast,ai _ i h,e,cond_true]
 have hy:y∈x:=by rw[←e];exact List.getElem_mem h
 rw[alU (by have:=ba (t:=bW) hy;omega) (by have:=ba (t:=bW) hy;omega)]
 simp
theorem avZ {x:(List QL)} {N:Nat} {k:Int} {kf:Int→(List QL)→Option aa} (hN:ah (.sl bW) x<N) (hS:ah (.sl bW) x≤1152921504606846976) (h0:0≤k) (hB:(aJ (aH bW) x k).2≤4611686018427387904):L66 N x k kf=kf (aJ (aH bW) x k).2 (aJ (aH bW) x k).1:=by
 have hs:=aO (t:=bW) x
 have:=gk (f:=aH bW) (B:=4611686018427387904) (Q:=fun y=>y∈x) (L:=fun n xs k i=>AP n (fun z k=>kf k z) xs k i) (bF:=fun xs k=>kf k xs) (m0:=x.length) (ef _) (fun n xs k i h hm hq h0 hb=>by
   simp only[AP]
   rw[decide_eq_true (show(i:Int)<(xs.length:Int) by omega)]
   simp only[bE,bq,bX] at hb
   simp only[cond_true,an h,Int.toNat_natCast,share,List.length_set,set_set,l9 _ _ h,ai _ i h]
   simp (disch:=omega) only[bE,bq,bX,wrap64]
   rfl) (fun n xs k=>by
   simp only[AP]
   rw[decide_eq_false (by omega)]
   rfl) x [] N k (by simp) (fun _ h=>h) (by omega) h0 hB
 exact this
end Go.Pv.R
