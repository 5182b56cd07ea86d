/- What the harness' functions answer. -/
import Derived.Test.YtcpakhaogbempaaGreatPlLst
namespace Go.Pv.R
set_option linter.unusedVariables false
set_option linter.unusedSimpArgs false
theorem SE {x:(List Int)} {N:Nat} {left:Int} {kf:Int→Option aa} (hw:wf (.sl (.int .i64)) x) (hN:ah (.sl (.int .i64)) x<N) (h0:0≤left) (h1:left≤1048576):L87 N x left kf=kf (kW left (ah (.sl (.int .i64)) x)):=by
 have hl:=Ap hw
 have hm:=aw
 have hs:=aT (t:=(.int .i64)) x
 unfold L87
 rw[wrap64 (by omega) (by omega)]
 rw[gI (t:=(.int .i64)) (by decide) x]
 unfold kW
 by_cases h:left - (x.length:Int)<0
 ·rw[decide_eq_true h,cond_true,if_neg (by omega)]
 ·rw[decide_eq_false h,cond_false,if_pos (by omega)]
theorem akn {x:QT} {N:Nat} {left:Int} {kf:Int→Option aa} (hw:wf bj x) (hN:ah bj x<N) (h0:0≤left) (h1:left≤1048576):Z1 N x left kf=kf (kW left (ah bj x)):=by
 have hs:ah bj x=ah (.sl (.int .i64)) x.2.2.2.2.2:=by simp[ah]
 rw[hs] at hN ⊢
 unfold Z1
 rw[SE hw.2.2.2.2.2 (by omega) h0 h1]
 by_cases c0:kW left (ah (.sl (.int .i64)) x.2.2.2.2.2)<0
 ·rw[decide_eq_true c0,cond_true,rp h0 c0 (by omega)]
 rw[decide_eq_false c0,cond_false]
theorem auy {x:(List QT)} {N:Nat} {left:Int} {kf:Int→Option aa} (hw:wf (.sl bj) x) (hN:ah (.sl bj) x<N) (h0:0≤left) (h1:left≤1048576):L84 N x left kf=kf (kW left (ah (.sl bj) x)):=by
 have hl:=Ap hw
 have hm:=aw
 have hs:=aT (t:=bj) x
 unfold L84
 rw[wrap64 (by omega) (by omega)]
 by_cases h:left - (x.length:Int)<0
 ·rw[decide_eq_true h,cond_true]
  unfold kW
  rw[if_neg (by omega)]
 ·rw[decide_eq_false h,cond_false,aeN hl (by omega)]
  have hg:=RY (g:=fun x s k=>Z1 N x s k) (sz:=ah bj) (kf:=kf) x 0 (left - (x.length:Int)) (fun y hy s k b0 b1=>akn (hw.2 y hy) (by have:=bn (t:=bj) hy;omega) b0 b1) (by omega) (by omega)
  refine Eq.trans hg ?_
  rw[Wn (by omega),Hv (t:=bj)]
theorem ako {x:QJ} {N:Nat} {left:Int} {kf:Int→Option aa} (hw:wf bS x) (hN:ah bS x<N) (h0:0≤left) (h1:left≤1048576):Z2 N x left kf=kf (kW left (ah bS x)):=by
 have hs:ah bS x=ah (.sl (.int .i64)) x.2.2:=by simp[ah]
 rw[hs] at hN ⊢
 unfold Z2
 rw[SE hw.2.2 (by omega) h0 h1]
 by_cases c0:kW left (ah (.sl (.int .i64)) x.2.2)<0
 ·rw[decide_eq_true c0,cond_true,rp h0 c0 (by omega)]
 rw[decide_eq_false c0,cond_false]
theorem auz {x:(List QJ)} {N:Nat} {left:Int} {kf:Int→Option aa} (hw:wf (.sl bS) x) (hN:ah (.sl bS) x<N) (h0:0≤left) (h1:left≤1048576):L85 N x left kf=kf (kW left (ah (.sl bS) x)):=by
 have hl:=Ap hw
 have hm:=aw
 have hs:=aT (t:=bS) x
 unfold L85
 rw[wrap64 (by omega) (by omega)]
 by_cases h:left - (x.length:Int)<0
 ·rw[decide_eq_true h,cond_true]
  unfold kW
  rw[if_neg (by omega)]
 ·rw[decide_eq_false h,cond_false,aeO hl (by omega)]
  have hg:=RY (g:=fun x s k=>Z2 N x s k) (sz:=ah bS) (kf:=kf) x 0 (left - (x.length:Int)) (fun y hy s k b0 b1=>ako (hw.2 y hy) (by have:=bn (t:=bS) hy;omega) b0 b1) (by omega) (by omega)
  refine Eq.trans hg ?_
  rw[Wn (by omega),Hv (t:=bS)]
theorem auA {x:(List a7)} {N:Nat} {left:Int} {kf:Int→Option aa} (hw:wf (.sl aM) x) (hN:ah (.sl aM) x<N) (h0:0≤left) (h1:left≤1048576):L86 N x left kf=kf (kW left (ah (.sl aM) x)):=by
 have hl:=Ap hw
 have hm:=aw
 have hs:=aT (t:=aM) x
 unfold L86
 rw[wrap64 (by omega) (by omega)]
 rw[gI (t:=aM) (by decide) x]
 unfold kW
 by_cases h:left - (x.length:Int)<0
 ·rw[decide_eq_true h,cond_true,if_neg (by omega)]
 ·rw[decide_eq_false h,cond_false,if_pos (by omega)]
theorem auB {x:(List QB)} {N:Nat} {left:Int} {kf:Int→Option aa} (hw:wf (.sl de) x) (hN:ah (.sl de) x<N) (h0:0≤left) (h1:left≤1048576):L88 N x left kf=kf (kW left (ah (.sl de) x)):=by
 have hl:=Ap hw
 have hm:=aw
 have hs:=aT (t:=de) x
 unfold L88
 rw[wrap64 (by omega) (by omega)]
 rw[gI (t:=de) (by decide) x]
 unfold kW
 by_cases h:left - (x.length:Int)<0
 ·rw[decide_eq_true h,cond_true,if_neg (by omega)]
 ·rw[decide_eq_false h,cond_false,if_pos (by omega)]
theorem auC {x:(List QL)} {N:Nat} {left:Int} {kf:Int→Option aa} (hw:wf (.sl df) x) (hN:ah (.sl df) x<N) (h0:0≤left) (h1:left≤1048576):L89 N x left kf=kf (kW left (ah (.sl df) x)):=by
 have hl:=Ap hw
 have hm:=aw
 have hs:=aT (t:=df) x
 unfold L89
 rw[wrap64 (by omega) (by omega)]
 rw[gI (t:=df) (by decide) x]
 unfold kW
 by_cases h:left - (x.length:Int)<0
 ·rw[decide_eq_true h,cond_true,if_neg (by omega)]
 ·rw[decide_eq_false h,cond_false,if_pos (by omega)]
theorem auD {x:QC} {N:Nat} {left:Int} {kf:Int→Option aa} (hw:wf bY x) (hN:ah bY x<N) (h0:0≤left) (h1:left≤1048576):L20 N x left kf=kf (kW left (ah bY x)):=by
 have hs:ah bY x=ah (.sl bj) x.1+ah (.sl bS) x.2.1+ah (.sl aM) x.2.2.1+ah (.sl (.int .i64)) x.2.2.2.1+ah (.sl de) x.2.2.2.2.1+ah (.sl df) x.2.2.2.2.2.1:=by simp[ah];omega
 rw[hs] at hN ⊢
 unfold L20
 rw[auy hw.1 (by omega) h0 h1]
 by_cases c0:kW left (ah (.sl bj) x.1)<0
 ·rw[decide_eq_true c0,cond_true,rp h0 c0 (by omega)]
 rw[decide_eq_false c0,cond_false]
 obtain⟨p0,q0⟩:=lM h0 h1 c0
 rw[auz hw.2.1 (by omega) p0 q0,rn h0 c0]
 by_cases c1:kW left (ah (.sl bj) x.1+ah (.sl bS) x.2.1)<0
 ·rw[decide_eq_true c1,cond_true,rp h0 c1 (by omega)]
 rw[decide_eq_false c1,cond_false]
 obtain⟨p1,q1⟩:=lM h0 h1 c1
 rw[auA hw.2.2.1 (by omega) p1 q1,rn h0 c1]
 by_cases c2:kW left (ah (.sl bj) x.1+ah (.sl bS) x.2.1+ah (.sl aM) x.2.2.1)<0
 ·rw[decide_eq_true c2,cond_true,rp h0 c2 (by omega)]
 rw[decide_eq_false c2,cond_false]
 obtain⟨p2,q2⟩:=lM h0 h1 c2
 rw[SE hw.2.2.2.1 (by omega) p2 q2,rn h0 c2]
 by_cases c3:kW left (ah (.sl bj) x.1+ah (.sl bS) x.2.1+ah (.sl aM) x.2.2.1+ah (.sl (.int .i64)) x.2.2.2.1)<0
 ·rw[decide_eq_true c3,cond_true,rp h0 c3 (by omega)]
 rw[decide_eq_false c3,cond_false]
 obtain⟨p3,q3⟩:=lM h0 h1 c3
 rw[auB hw.2.2.2.2.1 (by omega) p3 q3,rn h0 c3]
 by_cases c4:kW left (ah (.sl bj) x.1+ah (.sl bS) x.2.1+ah (.sl aM) x.2.2.1+ah (.sl (.int .i64)) x.2.2.2.1+ah (.sl de) x.2.2.2.2.1)<0
 ·rw[decide_eq_true c4,cond_true,rp h0 c4 (by omega)]
 rw[decide_eq_false c4,cond_false]
 obtain⟨p4,q4⟩:=lM h0 h1 c4
 rw[auC hw.2.2.2.2.2.1 (by omega) p4 q4,rn h0 c4]
 by_cases c5:kW left (ah (.sl bj) x.1+ah (.sl bS) x.2.1+ah (.sl aM) x.2.2.1+ah (.sl (.int .i64)) x.2.2.2.1+ah (.sl de) x.2.2.2.2.1+ah (.sl df) x.2.2.2.2.2.1)<0
 ·rw[decide_eq_true c5,cond_true,rp h0 c5 (by omega)]
 rw[decide_eq_false c5,cond_false]
theorem SF {x:(List Int)} {N:Nat} {kf:(List Int)→Option aa} (hN:ah (.sl (.int .i64)) x<N) (hb:ah (.sl (.int .i64)) x≤1048576):L98 N x kf=kf x:=by
 have hs:=aT (t:=(.int .i64)) x
 have hm:=aw
 unfold L98
 rw[Ao (by omega),cond_true,aeP (by omega) (by omega)]
 have hg:=uF (g:=fun x k=>k x) (bD:=kf) x 0 (List.replicate (Int.toNat (x.length:Int)) (0:Int)) (fun _ _ _=>rfl) (by simp)
 refine Eq.trans hg ?_
 simp
theorem akp {x:QT} {N:Nat} {kf:QT→Option aa} (hN:ah bj x<N) (hb:ah bj x≤1048576):Z3 N x kf=kf x:=by
 have hs:ah bj x=ah (.sl (.int .i64)) x.2.2.2.2.2:=by simp[ah]
 rw[hs] at hN hb
 unfold Z3
 rw[SF (by omega) (by omega)]
theorem auE {x:(List QT)} {N:Nat} {kf:(List QT)→Option aa} (hN:ah (.sl bj) x<N) (hb:ah (.sl bj) x≤1048576):L95 N x kf=kf x:=by
 have hs:=aT (t:=bj) x
 have hm:=aw
 unfold L95
 rw[Ao (by omega),cond_true,aeQ (by omega) (by omega)]
 have hg:=uF (g:=fun x k=>Z3 N x k) (bD:=kf) x 0 (List.replicate (Int.toNat (x.length:Int)) ((0:Int),((0:Int),((0:Int),((0:Int),((0:Int),([]:(List Int)))))))) (fun y hy k=>akp (by have:=bn (t:=bj) hy;omega) (by have:=bn (t:=bj) hy;omega)) (by simp)
 refine Eq.trans hg ?_
 simp
theorem akq {x:QJ} {N:Nat} {kf:QJ→Option aa} (hN:ah bS x<N) (hb:ah bS x≤1048576):Z4 N x kf=kf x:=by
 have hs:ah bS x=ah (.sl (.int .i64)) x.2.2:=by simp[ah]
 rw[hs] at hN hb
 unfold Z4
 rw[SF (by omega) (by omega)]
theorem auF {x:(List QJ)} {N:Nat} {kf:(List QJ)→Option aa} (hN:ah (.sl bS) x<N) (hb:ah (.sl bS) x≤1048576):L96 N x kf=kf x:=by
 have hs:=aT (t:=bS) x
 have hm:=aw
 unfold L96
 rw[Ao (by omega),cond_true,aeR (by omega) (by omega)]
 have hg:=uF (g:=fun x k=>Z4 N x k) (bD:=kf) x 0 (List.replicate (Int.toNat (x.length:Int)) ((0:Int),((0:Int),([]:(List Int))))) (fun y hy k=>akq (by have:=bn (t:=bS) hy;omega) (by have:=bn (t:=bS) hy;omega)) (by simp)
 refine Eq.trans hg ?_
 simp
theorem akr {x:a7} {N:Nat} {kf:a7→Option aa} (hN:ah aM x<N) (hb:ah aM x≤1048576):Z5 N x kf=kf x:=by
 have hs:ah aM x=0:=by simp[ah]
 rw[hs] at hN hb
 unfold Z5
 rfl
theorem auG {x:(List a7)} {N:Nat} {kf:(List a7)→Option aa} (hN:ah (.sl aM) x<N) (hb:ah (.sl aM) x≤1048576):L97 N x kf=kf x:=by
 have hs:=aT (t:=aM) x
 have hm:=aw
 unfold L97
 rw[Ao (by omega),cond_true,aeS (by omega) (by omega)]
 have hg:=uF (g:=fun x k=>Z5 N x k) (bD:=kf) x 0 (List.replicate (Int.toNat (x.length:Int)) ((0:Int),(0:Int))) (fun y hy k=>akr (by have:=bn (t:=aM) hy;omega) (by have:=bn (t:=aM) hy;omega)) (by simp)
 refine Eq.trans hg ?_
 simp
theorem aks {x:QB} {N:Nat} {kf:QB→Option aa} (hN:ah de x<N) (hb:ah de x≤1048576):Z6 N x kf=kf x:=by
 have hs:ah de x=0:=by simp[ah]
 rw[hs] at hN hb
 unfold Z6
 rfl
theorem auH {x:(List QB)} {N:Nat} {kf:(List QB)→Option aa} (hN:ah (.sl de) x<N) (hb:ah (.sl de) x≤1048576):L99 N x kf=kf x:=by
 have hs:=aT (t:=de) x
 have hm:=aw
 unfold L99
 rw[Ao (by omega),cond_true,aeT (by omega) (by omega)]
 have hg:=uF (g:=fun x k=>Z6 N x k) (bD:=kf) x 0 (List.replicate (Int.toNat (x.length:Int)) ((0:Int),((0:Int),(0:Int)))) (fun y hy k=>aks (by have:=bn (t:=de) hy;omega) (by have:=bn (t:=de) hy;omega)) (by simp)
 refine Eq.trans hg ?_
 simp
theorem akt {x:QL} {N:Nat} {kf:QL→Option aa} (hN:ah df x<N) (hb:ah df x≤1048576):Z7 N x kf=kf x:=by
 have hs:ah df x=0:=by simp[ah]
 rw[hs] at hN hb
 unfold Z7
 rfl
theorem aku {x:(List QL)} {N:Nat} {kf:(List QL)→Option aa} (hN:ah (.sl df) x<N) (hb:ah (.sl df) x≤1048576):aj3 N x kf=kf x:=by
 have hs:=aT (t:=df) x
 have hm:=aw
 unfold aj3
 rw[Ao (by omega),cond_true,aar (by omega) (by omega)]
 have hg:=uF (g:=fun x k=>Z7 N x k) (bD:=kf) x 0 (List.replicate (Int.toNat (x.length:Int)) ((0:Int),((0:Int),((0:Int),(0:Int))))) (fun y hy k=>akt (by have:=bn (t:=df) hy;omega) (by have:=bn (t:=df) hy;omega)) (by simp)
 refine Eq.trans hg ?_
 simp
theorem auI {x:QC} {N:Nat} {kf:QC→Option aa} (hN:ah bY x<N) (hb:ah bY x≤1048576):L22 N x kf=kf x:=by
 have hs:ah bY x=ah (.sl bj) x.1+ah (.sl bS) x.2.1+ah (.sl aM) x.2.2.1+ah (.sl (.int .i64)) x.2.2.2.1+ah (.sl de) x.2.2.2.2.1+ah (.sl df) x.2.2.2.2.2.1:=by simp[ah];omega
 rw[hs] at hN hb
 unfold L22
 rw[auE (by omega) (by omega)]
 rw[auF (by omega) (by omega)]
 rw[auG (by omega) (by omega)]
 rw[SF (by omega) (by omega)]
 rw[auH (by omega) (by omega)]
 rw[aku (by omega) (by omega)]
theorem I7 {x:(List Int)} {N:Nat} {kf:Bool→Option aa} (hN:ah (.sl (.int .i64)) x<N) (hw:ah (.sl (.int .i64)) x≤2097152):aaa N x x kf=kf true:=by
 have hs:=aT (t:=(.int .i64)) x
 have hm:=aw
 unfold aaa
 simp only[bne_self_eq_false,cond_false]
 rw[aaJ (by omega) (by omega)]
 refine uG (l:=x) (fun i y next h e=>?_) x 0 rfl
 simp only[an h,Int.toNat_natCast,ai _ i h,e,cond_true]
 simp
theorem akv {x:QT} {N:Nat} {kf:Bool→Option aa} (hN:ah bj x<N) (hw:ah bj x≤2097152):aei N x x kf=kf true:=by
 have hs:ah bj x=ah (.sl (.int .i64)) x.2.2.2.2.2:=by simp[ah]
 rw[hs] at hN hw
 unfold aei
 simp only[bne_self_eq_false,cond_false]
 rw[I7 (by omega) (by omega)]
 simp only[Bool.not_true,bne_self_eq_false,cond_false]
theorem akw {x:(List QT)} {N:Nat} {kf:Bool→Option aa} (hN:ah (.sl bj) x<N) (hw:ah (.sl bj) x≤2097152):akb N x x kf=kf true:=by
 have hs:=aT (t:=bj) x
 have hm:=aw
 unfold akb
 simp only[bne_self_eq_false,cond_false]
 rw[aaK (by omega) (by omega)]
 refine uG (l:=x) (fun i y next h e=>?_) x 0 rfl
 simp only[an h,Int.toNat_natCast,ai _ i h,e,cond_true]
 have hy:y∈x:=by rw[←e];exact List.getElem_mem h
 rw[akv (by have:=bn (t:=bj) hy;omega) (by have:=bn (t:=bj) hy;omega)]
 simp
theorem akx {x:QJ} {N:Nat} {kf:Bool→Option aa} (hN:ah bS x<N) (hw:ah bS x≤2097152):aej N x x kf=kf true:=by
 have hs:ah bS x=ah (.sl (.int .i64)) x.2.2:=by simp[ah]
 rw[hs] at hN hw
 unfold aej
 simp only[bne_self_eq_false,cond_false]
 rw[I7 (by omega) (by omega)]
 simp only[Bool.not_true,bne_self_eq_false,cond_false]
theorem aky {x:(List QJ)} {N:Nat} {kf:Bool→Option aa} (hN:ah (.sl bS) x<N) (hw:ah (.sl bS) x≤2097152):akc N x x kf=kf true:=by
 have hs:=aT (t:=bS) x
 have hm:=aw
 unfold akc
 simp only[bne_self_eq_false,cond_false]
 rw[aaL (by omega) (by omega)]
 refine uG (l:=x) (fun i y next h e=>?_) x 0 rfl
 simp only[an h,Int.toNat_natCast,ai _ i h,e,cond_true]
 have hy:y∈x:=by rw[←e];exact List.getElem_mem h
 rw[akx (by have:=bn (t:=bS) hy;omega) (by have:=bn (t:=bS) hy;omega)]
 simp
theorem akz {x:a7} {N:Nat} {kf:Bool→Option aa} (hN:ah aM x<N) (hw:ah aM x≤2097152):aek N x x kf=kf true:=by
 have hs:ah aM x=0:=by simp[ah]
 rw[hs] at hN hw
 unfold aek
 simp only[bne_self_eq_false,cond_false]
theorem akA {x:(List a7)} {N:Nat} {kf:Bool→Option aa} (hN:ah (.sl aM) x<N) (hw:ah (.sl aM) x≤2097152):akd N x x kf=kf true:=by
 have hs:=aT (t:=aM) x
 have hm:=aw
 unfold akd
 simp only[bne_self_eq_false,cond_false]
 rw[aaM (by omega) (by omega)]
 refine uG (l:=x) (fun i y next h e=>?_) x 0 rfl
 simp only[an h,Int.toNat_natCast,ai _ i h,e,cond_true]
 have hy:y∈x:=by rw[←e];exact List.getElem_mem h
 rw[akz (by have:=bn (t:=aM) hy;omega) (by have:=bn (t:=aM) hy;omega)]
 simp
theorem akB {x:QB} {N:Nat} {kf:Bool→Option aa} (hN:ah de x<N) (hw:ah de x≤2097152):ael N x x kf=kf true:=by
 have hs:ah de x=0:=by simp[ah]
 rw[hs] at hN hw
 unfold ael
 simp only[bne_self_eq_false,cond_false]
theorem akC {x:(List QB)} {N:Nat} {kf:Bool→Option aa} (hN:ah (.sl de) x<N) (hw:ah (.sl de) x≤2097152):ake N x x kf=kf true:=by
 have hs:=aT (t:=de) x
 have hm:=aw
 unfold ake
 simp only[bne_self_eq_false,cond_false]
 rw[aaN (by omega) (by omega)]
 refine uG (l:=x) (fun i y next h e=>?_) x 0 rfl
 simp only[an h,Int.toNat_natCast,ai _ i h,e,cond_true]
 have hy:y∈x:=by rw[←e];exact List.getElem_mem h
 rw[akB (by have:=bn (t:=de) hy;omega) (by have:=bn (t:=de) hy;omega)]
 simp
theorem akD {x:QL} {N:Nat} {kf:Bool→Option aa} (hN:ah df x<N) (hw:ah df x≤2097152):aem N x x kf=kf true:=by
 have hs:ah df x=0:=by simp[ah]
 rw[hs] at hN hw
 unfold aem
 simp only[bne_self_eq_false,cond_false]
theorem akE {x:(List QL)} {N:Nat} {kf:Bool→Option aa} (hN:ah (.sl df) x<N) (hw:ah (.sl df) x≤2097152):akf N x x kf=kf true:=by
 have hs:=aT (t:=df) x
 have hm:=aw
 unfold akf
 simp only[bne_self_eq_false,cond_false]
 rw[aaO (by omega) (by omega)]
 refine uG (l:=x) (fun i y next h e=>?_) x 0 rfl
 simp only[an h,Int.toNat_natCast,ai _ i h,e,cond_true]
 have hy:y∈x:=by rw[←e];exact List.getElem_mem h
 rw[akD (by have:=bn (t:=df) hy;omega) (by have:=bn (t:=df) hy;omega)]
 simp
theorem aeV {x:QC} {N:Nat} {kf:Bool→Option aa} (hN:ah bY x<N) (hw:ah bY x≤2097152):L24 N x x kf=kf true:=by
 have hs:ah bY x=ah (.sl bj) x.1+ah (.sl bS) x.2.1+ah (.sl aM) x.2.2.1+ah (.sl (.int .i64)) x.2.2.2.1+ah (.sl de) x.2.2.2.2.1+ah (.sl df) x.2.2.2.2.2.1:=by simp[ah];omega
 rw[hs] at hN hw
 unfold L24
 simp only[bne_self_eq_false,cond_false]
 rw[akw (by omega) (by omega)]
 simp only[Bool.not_true,bne_self_eq_false,cond_false]
 rw[aky (by omega) (by omega)]
 simp only[Bool.not_true,bne_self_eq_false,cond_false]
 rw[akA (by omega) (by omega)]
 simp only[Bool.not_true,bne_self_eq_false,cond_false]
 rw[I7 (by omega) (by omega)]
 simp only[Bool.not_true,bne_self_eq_false,cond_false]
 rw[akC (by omega) (by omega)]
 simp only[Bool.not_true,bne_self_eq_false,cond_false]
 rw[akE (by omega) (by omega)]
 simp only[Bool.not_true,bne_self_eq_false,cond_false]
theorem I8 {x:(List Int)} {N:Nat} {k:Int} {kf:Int→(List Int)→Option aa} (hN:ah (.sl (.int .i64)) x<N) (hS:ah (.sl (.int .i64)) x≤1152921504606846976) (h0:0≤k) (hB:(aK (aH (.int .i64)) x k).2≤4611686018427387904):aen N x k kf=kf (aK (aH (.int .i64)) x k).2 (aK (aH (.int .i64)) x k).1:=by
 have hs:=aT (t:=(.int .i64)) x
 have:=ib (f:=aH (.int .i64)) (B:=4611686018427387904) (Q:=fun y=>y∈x) (L:=fun n xs k i=>sG n (fun z k=>kf k z) xs k i) (bD:=fun xs k=>kf k xs) (m0:=x.length) (eO _) (fun n xs k i h hm hq h0 hb=>by
   simp only[sG]
   rw[decide_eq_true (show(i:Int)<(xs.length:Int) by omega)]
   simp only[bK,bz,b6] at hb
   simp only[cond_true,an h,Int.toNat_natCast,share,List.length_set,set_set,n0 _ _ h,ai _ i h]
   simp (disch:=omega) only[bK,bz,b6,wrap64]
   rfl) (fun n xs k=>by
   simp only[sG]
   rw[decide_eq_false (by omega)]
   rfl) x [] N k (by simp) (fun _ h=>h) (by omega) h0 hB
 exact this
theorem akF {x:(List QT)} {N:Nat} {k:Int} {kf:Int→(List QT)→Option aa} (hN:ah (.sl bj) x<N) (hS:ah (.sl bj) x≤1152921504606846976) (h0:0≤k) (hB:(aK (aH bj) x k).2≤4611686018427387904):at' N x k kf=kf (aK (aH bj) x k).2 (aK (aH bj) x k).1:=by
 have hs:=aT (t:=bj) x
 have:=ib (f:=aH bj) (B:=4611686018427387904) (Q:=fun y=>y∈x) (L:=fun n xs k i=>sH N n (fun z k=>kf k z) xs k i) (bD:=fun xs k=>kf k xs) (m0:=x.length) (eO _) (fun n xs k i h hm hq h0 hb=>by
   simp only[sH]
   rw[decide_eq_true (show(i:Int)<(xs.length:Int) by omega)]
   simp only[bK,bz,b6] at hb
   simp only[cond_true,an h,Int.toNat_natCast,share,List.length_set,set_set,n0 _ _ h,ai _ i h]
   have hg:=dp (t:=(.int .i64)) xs[i].2.2.2.2.2 (k+1+1+1+1+1)
   try simp (disch:=omega) only[wrap64]
   have hz:=bn (t:=bj) hq
   have hy:ah (.sl (.int .i64)) xs[i].2.2.2.2.2≤ah bj xs[i]:=by simp[ah]
   rw[I8 (by omega) (by omega) (by omega) (by omega)]
   simp (disch:=omega) only[bK,bz,b6,wrap64]
   rfl) (fun n xs k=>by
   simp only[sH]
   rw[decide_eq_false (by omega)]
   rfl) x [] N k (by simp) (fun _ h=>h) (by omega) h0 hB
 exact this
theorem akG {x:(List QJ)} {N:Nat} {k:Int} {kf:Int→(List QJ)→Option aa} (hN:ah (.sl bS) x<N) (hS:ah (.sl bS) x≤1152921504606846976) (h0:0≤k) (hB:(aK (aH bS) x k).2≤4611686018427387904):aua N x k kf=kf (aK (aH bS) x k).2 (aK (aH bS) x k).1:=by
 have hs:=aT (t:=bS) x
 have:=ib (f:=aH bS) (B:=4611686018427387904) (Q:=fun y=>y∈x) (L:=fun n xs k i=>sI N n (fun z k=>kf k z) xs k i) (bD:=fun xs k=>kf k xs) (m0:=x.length) (eO _) (fun n xs k i h hm hq h0 hb=>by
   simp only[sI]
   rw[decide_eq_true (show(i:Int)<(xs.length:Int) by omega)]
   simp only[bK,bz,b6] at hb
   simp only[cond_true,an h,Int.toNat_natCast,share,List.length_set,set_set,n0 _ _ h,ai _ i h]
   have hg:=dp (t:=(.int .i64)) xs[i].2.2 (k+1+1)
   try simp (disch:=omega) only[wrap64]
   have hz:=bn (t:=bS) hq
   have hy:ah (.sl (.int .i64)) xs[i].2.2≤ah bS xs[i]:=by simp[ah]
   rw[I8 (by omega) (by omega) (by omega) (by omega)]
   simp (disch:=omega) only[bK,bz,b6,wrap64]
   rfl) (fun n xs k=>by
   simp only[sI]
   rw[decide_eq_false (by omega)]
   rfl) x [] N k (by simp) (fun _ h=>h) (by omega) h0 hB
 exact this
theorem akH {x:(List a7)} {N:Nat} {k:Int} {kf:Int→(List a7)→Option aa} (hN:ah (.sl aM) x<N) (hS:ah (.sl aM) x≤1152921504606846976) (h0:0≤k) (hB:(aK (aH aM) x k).2≤4611686018427387904):aub N x k kf=kf (aK (aH aM) x k).2 (aK (aH aM) x k).1:=by
 have hs:=aT (t:=aM) x
 have:=ib (f:=aH aM) (B:=4611686018427387904) (Q:=fun y=>y∈x) (L:=fun n xs k i=>sJ n (fun z k=>kf k z) xs k i) (bD:=fun xs k=>kf k xs) (m0:=x.length) (eO _) (fun n xs k i h hm hq h0 hb=>by
   simp only[sJ]
   rw[decide_eq_true (show(i:Int)<(xs.length:Int) by omega)]
   simp only[bK,bz,b6] at hb
   simp only[cond_true,an h,Int.toNat_natCast,share,List.length_set,set_set,n0 _ _ h,ai _ i h]
   simp (disch:=omega) only[bK,bz,b6,wrap64]
   rfl) (fun n xs k=>by
   simp only[sJ]
   rw[decide_eq_false (by omega)]
   rfl) x [] N k (by simp) (fun _ h=>h) (by omega) h0 hB
 exact this
theorem akI {x:(List QB)} {N:Nat} {k:Int} {kf:Int→(List QB)→Option aa} (hN:ah (.sl de) x<N) (hS:ah (.sl de) x≤1152921504606846976) (h0:0≤k) (hB:(aK (aH de) x k).2≤4611686018427387904):auc N x k kf=kf (aK (aH de) x k).2 (aK (aH de) x k).1:=by
 have hs:=aT (t:=de) x
 have:=ib (f:=aH de) (B:=4611686018427387904) (Q:=fun y=>y∈x) (L:=fun n xs k i=>sK n (fun z k=>kf k z) xs k i) (bD:=fun xs k=>kf k xs) (m0:=x.length) (eO _) (fun n xs k i h hm hq h0 hb=>by
   simp only[sK]
   rw[decide_eq_true (show(i:Int)<(xs.length:Int) by omega)]
   simp only[bK,bz,b6] at hb
   simp only[cond_true,an h,Int.toNat_natCast,share,List.length_set,set_set,n0 _ _ h,ai _ i h]
   simp (disch:=omega) only[bK,bz,b6,wrap64]
   rfl) (fun n xs k=>by
   simp only[sK]
   rw[decide_eq_false (by omega)]
   rfl) x [] N k (by simp) (fun _ h=>h) (by omega) h0 hB
 exact this
theorem akJ {x:(List QL)} {N:Nat} {k:Int} {kf:Int→(List QL)→Option aa} (hN:ah (.sl df) x<N) (hS:ah (.sl df) x≤1152921504606846976) (h0:0≤k) (hB:(aK (aH df) x k).2≤4611686018427387904):aud N x k kf=kf (aK (aH df) x k).2 (aK (aH df) x k).1:=by
 have hs:=aT (t:=df) x
 have:=ib (f:=aH df) (B:=4611686018427387904) (Q:=fun y=>y∈x) (L:=fun n xs k i=>sL n (fun z k=>kf k z) xs k i) (bD:=fun xs k=>kf k xs) (m0:=x.length) (eO _) (fun n xs k i h hm hq h0 hb=>by
   simp only[sL]
   rw[decide_eq_true (show(i:Int)<(xs.length:Int) by omega)]
   simp only[bK,bz,b6] at hb
   simp only[cond_true,an h,Int.toNat_natCast,share,List.length_set,set_set,n0 _ _ h,ai _ i h]
   simp (disch:=omega) only[bK,bz,b6,wrap64]
   rfl) (fun n xs k=>by
   simp only[sL]
   rw[decide_eq_false (by omega)]
   rfl) x [] N k (by simp) (fun _ h=>h) (by omega) h0 hB
 exact this
theorem aeW {x:QC} {N:Nat} {k:Int} {kf:Int→QC→Option aa} (hN:ah bY x<N) (hS:ah bY x≤1152921504606846976) (h0:0≤k) (hB:(c6 bY x k).2≤4611686018427387904):L25 N x k kf=kf (c6 bY x k).2 (c6 bY x k).1:=by
 have hs:ah bY x=ah (.sl bj) x.1+ah (.sl bS) x.2.1+ah (.sl aM) x.2.2.1+ah (.sl (.int .i64)) x.2.2.2.1+ah (.sl de) x.2.2.2.2.1+ah (.sl df) x.2.2.2.2.2.1:=by simp[ah];omega
 rw[hs] at hN hS
 simp only[c6] at hB ⊢
 unfold L25
 have g0:=dp (t:=bj) x.1 k
 have g1:=dp (t:=bS) x.2.1 ((aK (aH bj) x.1 k).2)
 have g2:=dp (t:=aM) x.2.2.1 ((aK (aH bS) x.2.1 ((aK (aH bj) x.1 k).2)).2)
 have g3:=dp (t:=(.int .i64)) x.2.2.2.1 ((aK (aH aM) x.2.2.1 ((aK (aH bS) x.2.1 ((aK (aH bj) x.1 k).2)).2)).2)
 have g4:=dp (t:=de) x.2.2.2.2.1 ((aK (aH (.int .i64)) x.2.2.2.1 ((aK (aH aM) x.2.2.1 ((aK (aH bS) x.2.1 ((aK (aH bj) x.1 k).2)).2)).2)).2)
 have g5:=dp (t:=df) x.2.2.2.2.2.1 ((aK (aH de) x.2.2.2.2.1 ((aK (aH (.int .i64)) x.2.2.2.1 ((aK (aH aM) x.2.2.1 ((aK (aH bS) x.2.1 ((aK (aH bj) x.1 k).2)).2)).2)).2)).2)
 rw[akF (by omega) (by omega) (by omega) (by omega)]
 rw[akG (by omega) (by omega) (by omega) (by omega)]
 rw[akH (by omega) (by omega) (by omega) (by omega)]
 rw[I8 (by omega) (by omega) (by omega) (by omega)]
 rw[akI (by omega) (by omega) (by omega) (by omega)]
 rw[akJ (by omega) (by omega) (by omega) (by omega)]
theorem I9 {x:(List Int)} {N:Nat} {k:Int} {kf:Int→Option aa} (hN:ah (.sl (.int .i64)) x<N) (hS:ah (.sl (.int .i64)) x≤1152921504606846976) (h0:0≤k) (hB:(aK (aH (.int .i64)) x k).2≤4611686018427387904):aeq N (aK (aH (.int .i64)) x k).1 k kf=kf (aK (aH (.int .i64)) x k).2:=by
 have hs:=aT (t:=(.int .i64)) x
 have hl:=jK (aH (.int .i64)) x k
 have:=ic (f:=aH (.int .i64)) (B:=4611686018427387904) (Q:=fun y=>y∈x) (xs':=(aK (aH (.int .i64)) x k).1) (L:=fun n k2 i=>sM (aK (aH (.int .i64)) x k).1 n kf kf k2 i) (bD:=kf) (eO _) (fun n k1 i h y hq hy h0 hb=>by
   simp only[sM]
   rw[decide_eq_true (show(i:Int)<((aK (aH (.int .i64)) x k).1.length:Int) by omega)]
   simp only[bK,bz,b6] at hb hy
   try simp (disch:=omega) only[wrap64] at hy
   simp only[cond_true,an h,Int.toNat_natCast,ai _ i h,hy]
   try simp (disch:=omega) only[wrap64,bne_self_eq_false,cond_false]
   simp (disch:=omega) only[bK,bz,b6,wrap64]
   rfl) (fun n k1=>by
   simp only[sM]
   rw[decide_eq_false (by omega)]
   rfl) x [] N k rfl (fun _ h=>h) (by omega) h0 hB
 exact this
theorem akK {x:(List QT)} {N:Nat} {k:Int} {kf:Int→Option aa} (hN:ah (.sl bj) x<N) (hS:ah (.sl bj) x≤1152921504606846976) (h0:0≤k) (hB:(aK (aH bj) x k).2≤4611686018427387904):auf N (aK (aH bj) x k).1 k kf=kf (aK (aH bj) x k).2:=by
 have hs:=aT (t:=bj) x
 have hl:=jK (aH bj) x k
 have:=ic (f:=aH bj) (B:=4611686018427387904) (Q:=fun y=>y∈x) (xs':=(aK (aH bj) x k).1) (L:=fun n k2 i=>sO N (aK (aH bj) x k).1 n kf kf k2 i) (bD:=kf) (eO _) (fun n k1 i h y hq hy h0 hb=>by
   simp only[sO]
   rw[decide_eq_true (show(i:Int)<((aK (aH bj) x k).1.length:Int) by omega)]
   simp only[bK,bz,b6] at hb hy
   have hg:=dp (t:=(.int .i64)) y.2.2.2.2.2 (k1+1+1+1+1+1)
   have hz:=bn (t:=bj) hq
   have hw:ah (.sl (.int .i64)) y.2.2.2.2.2≤ah bj y:=by simp[ah]
   try simp (disch:=omega) only[wrap64] at hy
   simp only[cond_true,an h,Int.toNat_natCast,ai _ i h,hy]
   try simp (disch:=omega) only[wrap64,bne_self_eq_false,cond_false]
   rw[I9 (by omega) (by omega) (by omega) (by omega),decide_eq_false (by omega),cond_false]
   simp (disch:=omega) only[bK,bz,b6,wrap64]
   rfl) (fun n k1=>by
   simp only[sO]
   rw[decide_eq_false (by omega)]
   rfl) x [] N k rfl (fun _ h=>h) (by omega) h0 hB
 exact this
theorem akL {x:(List QJ)} {N:Nat} {k:Int} {kf:Int→Option aa} (hN:ah (.sl bS) x<N) (hS:ah (.sl bS) x≤1152921504606846976) (h0:0≤k) (hB:(aK (aH bS) x k).2≤4611686018427387904):aug N (aK (aH bS) x k).1 k kf=kf (aK (aH bS) x k).2:=by
 have hs:=aT (t:=bS) x
 have hl:=jK (aH bS) x k
 have:=ic (f:=aH bS) (B:=4611686018427387904) (Q:=fun y=>y∈x) (xs':=(aK (aH bS) x k).1) (L:=fun n k2 i=>sQ N (aK (aH bS) x k).1 n kf kf k2 i) (bD:=kf) (eO _) (fun n k1 i h y hq hy h0 hb=>by
   simp only[sQ]
   rw[decide_eq_true (show(i:Int)<((aK (aH bS) x k).1.length:Int) by omega)]
   simp only[bK,bz,b6] at hb hy
   have hg:=dp (t:=(.int .i64)) y.2.2 (k1+1+1)
   have hz:=bn (t:=bS) hq
   have hw:ah (.sl (.int .i64)) y.2.2≤ah bS y:=by simp[ah]
   try simp (disch:=omega) only[wrap64] at hy
   simp only[cond_true,an h,Int.toNat_natCast,ai _ i h,hy]
   try simp (disch:=omega) only[wrap64,bne_self_eq_false,cond_false]
   rw[I9 (by omega) (by omega) (by omega) (by omega),decide_eq_false (by omega),cond_false]
   simp (disch:=omega) only[bK,bz,b6,wrap64]
   rfl) (fun n k1=>by
   simp only[sQ]
   rw[decide_eq_false (by omega)]
   rfl) x [] N k rfl (fun _ h=>h) (by omega) h0 hB
 exact this
theorem akM {x:(List a7)} {N:Nat} {k:Int} {kf:Int→Option aa} (hN:ah (.sl aM) x<N) (hS:ah (.sl aM) x≤1152921504606846976) (h0:0≤k) (hB:(aK (aH aM) x k).2≤4611686018427387904):auh N (aK (aH aM) x k).1 k kf=kf (aK (aH aM) x k).2:=by
 have hs:=aT (t:=aM) x
 have hl:=jK (aH aM) x k
 have:=ic (f:=aH aM) (B:=4611686018427387904) (Q:=fun y=>y∈x) (xs':=(aK (aH aM) x k).1) (L:=fun n k2 i=>sR (aK (aH aM) x k).1 n kf kf k2 i) (bD:=kf) (eO _) (fun n k1 i h y hq hy h0 hb=>by
   simp only[sR]
   rw[decide_eq_true (show(i:Int)<((aK (aH aM) x k).1.length:Int) by omega)]
   simp only[bK,bz,b6] at hb hy
   try simp (disch:=omega) only[wrap64] at hy
   simp only[cond_true,an h,Int.toNat_natCast,ai _ i h,hy]
   try simp (disch:=omega) only[wrap64,bne_self_eq_false,cond_false]
   simp (disch:=omega) only[bK,bz,b6,wrap64]
   rfl) (fun n k1=>by
   simp only[sR]
   rw[decide_eq_false (by omega)]
   rfl) x [] N k rfl (fun _ h=>h) (by omega) h0 hB
 exact this
theorem akN {x:(List QB)} {N:Nat} {k:Int} {kf:Int→Option aa} (hN:ah (.sl de) x<N) (hS:ah (.sl de) x≤1152921504606846976) (h0:0≤k) (hB:(aK (aH de) x k).2≤4611686018427387904):aui N (aK (aH de) x k).1 k kf=kf (aK (aH de) x k).2:=by
 have hs:=aT (t:=de) x
 have hl:=jK (aH de) x k
 have:=ic (f:=aH de) (B:=4611686018427387904) (Q:=fun y=>y∈x) (xs':=(aK (aH de) x k).1) (L:=fun n k2 i=>sS (aK (aH de) x k).1 n kf kf k2 i) (bD:=kf) (eO _) (fun n k1 i h y hq hy h0 hb=>by
   simp only[sS]
   rw[decide_eq_true (show(i:Int)<((aK (aH de) x k).1.length:Int) by omega)]
   simp only[bK,bz,b6] at hb hy
   try simp (disch:=omega) only[wrap64] at hy
   simp only[cond_true,an h,Int.toNat_natCast,ai _ i h,hy]
   try simp (disch:=omega) only[wrap64,bne_self_eq_false,cond_false]
   simp (disch:=omega) only[bK,bz,b6,wrap64]
   rfl) (fun n k1=>by
   simp only[sS]
   rw[decide_eq_false (by omega)]
   rfl) x [] N k rfl (fun _ h=>h) (by omega) h0 hB
 exact this
theorem akO {x:(List QL)} {N:Nat} {k:Int} {kf:Int→Option aa} (hN:ah (.sl df) x<N) (hS:ah (.sl df) x≤1152921504606846976) (h0:0≤k) (hB:(aK (aH df) x k).2≤4611686018427387904):auj N (aK (aH df) x k).1 k kf=kf (aK (aH df) x k).2:=by
 have hs:=aT (t:=df) x
 have hl:=jK (aH df) x k
 have:=ic (f:=aH df) (B:=4611686018427387904) (Q:=fun y=>y∈x) (xs':=(aK (aH df) x k).1) (L:=fun n k2 i=>sU (aK (aH df) x k).1 n kf kf k2 i) (bD:=kf) (eO _) (fun n k1 i h y hq hy h0 hb=>by
   simp only[sU]
   rw[decide_eq_true (show(i:Int)<((aK (aH df) x k).1.length:Int) by omega)]
   simp only[bK,bz,b6] at hb hy
   try simp (disch:=omega) only[wrap64] at hy
   simp only[cond_true,an h,Int.toNat_natCast,ai _ i h,hy]
   try simp (disch:=omega) only[wrap64,bne_self_eq_false,cond_false]
   simp (disch:=omega) only[bK,bz,b6,wrap64]
   rfl) (fun n k1=>by
   simp only[sU]
   rw[decide_eq_false (by omega)]
   rfl) x [] N k rfl (fun _ h=>h) (by omega) h0 hB
 exact this
theorem auJ {x:QC} {N:Nat} {k:Int} {kf:Int→Option aa} (hN:ah bY x<N) (hS:ah bY x≤1152921504606846976) (h0:0≤k) (hB:(c6 bY x k).2≤4611686018427387904):L26 N (c6 bY x k).1 k kf=kf (c6 bY x k).2:=by
 have hs:ah bY x=ah (.sl bj) x.1+ah (.sl bS) x.2.1+ah (.sl aM) x.2.2.1+ah (.sl (.int .i64)) x.2.2.2.1+ah (.sl de) x.2.2.2.2.1+ah (.sl df) x.2.2.2.2.2.1:=by simp[ah];omega
 rw[hs] at hN hS
 simp only[c6] at hB ⊢
 unfold L26
 have g0:=dp (t:=bj) x.1 k
 have g1:=dp (t:=bS) x.2.1 ((aK (aH bj) x.1 k).2)
 have g2:=dp (t:=aM) x.2.2.1 ((aK (aH bS) x.2.1 ((aK (aH bj) x.1 k).2)).2)
 have g3:=dp (t:=(.int .i64)) x.2.2.2.1 ((aK (aH aM) x.2.2.1 ((aK (aH bS) x.2.1 ((aK (aH bj) x.1 k).2)).2)).2)
 have g4:=dp (t:=de) x.2.2.2.2.1 ((aK (aH (.int .i64)) x.2.2.2.1 ((aK (aH aM) x.2.2.1 ((aK (aH bS) x.2.1 ((aK (aH bj) x.1 k).2)).2)).2)).2)
 have g5:=dp (t:=df) x.2.2.2.2.2.1 ((aK (aH de) x.2.2.2.2.1 ((aK (aH (.int .i64)) x.2.2.2.1 ((aK (aH aM) x.2.2.1 ((aK (aH bS) x.2.1 ((aK (aH bj) x.1 k).2)).2)).2)).2)).2)
 rw[akK (by omega) (by omega) (by omega) (by omega)]
 rw[decide_eq_false (by omega),cond_false]
 rw[akL (by omega) (by omega) (by omega) (by omega)]
 rw[decide_eq_false (by omega),cond_false]
 rw[akM (by omega) (by omega) (by omega) (by omega)]
 rw[decide_eq_false (by omega),cond_false]
 rw[I9 (by omega) (by omega) (by omega) (by omega)]
 rw[decide_eq_false (by omega),cond_false]
 rw[akN (by omega) (by omega) (by omega) (by omega)]
 rw[decide_eq_false (by omega),cond_false]
 rw[akO (by omega) (by omega) (by omega) (by omega)]
 rw[decide_eq_false (by omega),cond_false]
end Go.Pv.R
