/- What the harness' functions answer. -/
import Derived.Test.YtcpakhaogbempaaGreatPlLst
namespace Go.Pv.R
set_option linter.unusedVariables false
set_option linter.unusedSimpArgs false
theorem L87_ok {x:(List Int)} {N:Nat} {left:Int} {kf:Int→Option Ret} (hw:wf (.sl (.int .i64)) x) (hN:sizeV (.sl (.int .i64)) x < N) (h0 : 0≤left) (h1:left≤1048576):L87 N x left kf=kf (szr left (sizeV (.sl (.int .i64)) x)):=by
 have hl:=wf_len hw
 have hm:=maxLen_eq
 have hs:=sizeV_len (t:=(.int .i64)) x
 unfold L87
 rw [wrap64 (by omega) (by omega)]
 rw [sizeV_sl (t:=(.int .i64)) (by decide) x]
 unfold szr
 by_cases h:left - (x.length:Int) < 0
 ·rw [decide_eq_true h,cond_true,if_neg (by omega)]
 ·rw [decide_eq_false h,cond_false,if_pos (by omega)]
theorem L171_ok {x:QIIIIILIE} {N:Nat} {left:Int} {kf:Int→Option Ret} (hw:wf tQIIIIILIE x) (hN:sizeV tQIIIIILIE x < N) (h0 : 0≤left) (h1:left≤1048576):L171 N x left kf=kf (szr left (sizeV tQIIIIILIE x)):=by
 have hs:sizeV tQIIIIILIE x=sizeV (.sl (.int .i64)) x.2.2.2.2.2:=by simp [sizeV]
 rw [hs] at hN ⊢
 unfold L171
 rw [L87_ok hw.2.2.2.2.2 (by omega) h0 h1]
 by_cases c0:szr left (sizeV (.sl (.int .i64)) x.2.2.2.2.2) < 0
 ·rw [decide_eq_true c0,cond_true,szr_lt h0 c0 (by omega)]
 rw [decide_eq_false c0,cond_false]
theorem L84_ok {x:(List QIIIIILIE)} {N:Nat} {left:Int} {kf:Int→Option Ret} (hw:wf (.sl tQIIIIILIE) x) (hN:sizeV (.sl tQIIIIILIE) x < N) (h0 : 0≤left) (h1:left≤1048576):L84 N x left kf=kf (szr left (sizeV (.sl tQIIIIILIE) x)):=by
 have hl:=wf_len hw
 have hm:=maxLen_eq
 have hs:=sizeV_len (t:=tQIIIIILIE) x
 unfold L84
 rw [wrap64 (by omega) (by omega)]
 by_cases h:left - (x.length:Int) < 0
 ·rw [decide_eq_true h,cond_true]
  unfold szr
  rw [if_neg (by omega)]
 ·rw [decide_eq_false h,cond_false,L84_l5_r hl (by omega)]
  have hg:=goL_sz (g:=fun x s k=>L171 N x s k) (sz:=sizeV tQIIIIILIE) (kf:=kf) x 0 (left - (x.length:Int)) (fun y hy s k b0 b1=>L171_ok (hw.2 y hy) (by have:=sizeV_mem (t:=tQIIIIILIE) hy; omega) b0 b1) (by omega) (by omega)
  refine Eq.trans hg ?_
  rw [szr_sub (by omega),sizeV_def (t:=tQIIIIILIE)]
theorem L172_ok {x:QIILIE} {N:Nat} {left:Int} {kf:Int→Option Ret} (hw:wf tQIILIE x) (hN:sizeV tQIILIE x < N) (h0 : 0≤left) (h1:left≤1048576):L172 N x left kf=kf (szr left (sizeV tQIILIE x)):=by
 have hs:sizeV tQIILIE x=sizeV (.sl (.int .i64)) x.2.2:=by simp [sizeV]
 rw [hs] at hN ⊢
 unfold L172
 rw [L87_ok hw.2.2 (by omega) h0 h1]
 by_cases c0:szr left (sizeV (.sl (.int .i64)) x.2.2) < 0
 ·rw [decide_eq_true c0,cond_true,szr_lt h0 c0 (by omega)]
 rw [decide_eq_false c0,cond_false]
theorem L85_ok {x:(List QIILIE)} {N:Nat} {left:Int} {kf:Int→Option Ret} (hw:wf (.sl tQIILIE) x) (hN:sizeV (.sl tQIILIE) x < N) (h0 : 0≤left) (h1:left≤1048576):L85 N x left kf=kf (szr left (sizeV (.sl tQIILIE) x)):=by
 have hl:=wf_len hw
 have hm:=maxLen_eq
 have hs:=sizeV_len (t:=tQIILIE) x
 unfold L85
 rw [wrap64 (by omega) (by omega)]
 by_cases h:left - (x.length:Int) < 0
 ·rw [decide_eq_true h,cond_true]
  unfold szr
  rw [if_neg (by omega)]
 ·rw [decide_eq_false h,cond_false,L85_l5_r hl (by omega)]
  have hg:=goL_sz (g:=fun x s k=>L172 N x s k) (sz:=sizeV tQIILIE) (kf:=kf) x 0 (left - (x.length:Int)) (fun y hy s k b0 b1=>L172_ok (hw.2 y hy) (by have:=sizeV_mem (t:=tQIILIE) hy; omega) b0 b1) (by omega) (by omega)
  refine Eq.trans hg ?_
  rw [szr_sub (by omega),sizeV_def (t:=tQIILIE)]
theorem L86_ok {x:(List QIIE)} {N:Nat} {left:Int} {kf:Int→Option Ret} (hw:wf (.sl tQIIE) x) (hN:sizeV (.sl tQIIE) x < N) (h0 : 0≤left) (h1:left≤1048576):L86 N x left kf=kf (szr left (sizeV (.sl tQIIE) x)):=by
 have hl:=wf_len hw
 have hm:=maxLen_eq
 have hs:=sizeV_len (t:=tQIIE) x
 unfold L86
 rw [wrap64 (by omega) (by omega)]
 rw [sizeV_sl (t:=tQIIE) (by decide) x]
 unfold szr
 by_cases h:left - (x.length:Int) < 0
 ·rw [decide_eq_true h,cond_true,if_neg (by omega)]
 ·rw [decide_eq_false h,cond_false,if_pos (by omega)]
theorem L88_ok {x:(List QIIIE)} {N:Nat} {left:Int} {kf:Int→Option Ret} (hw:wf (.sl tQIIIE) x) (hN:sizeV (.sl tQIIIE) x < N) (h0 : 0≤left) (h1:left≤1048576):L88 N x left kf=kf (szr left (sizeV (.sl tQIIIE) x)):=by
 have hl:=wf_len hw
 have hm:=maxLen_eq
 have hs:=sizeV_len (t:=tQIIIE) x
 unfold L88
 rw [wrap64 (by omega) (by omega)]
 rw [sizeV_sl (t:=tQIIIE) (by decide) x]
 unfold szr
 by_cases h:left - (x.length:Int) < 0
 ·rw [decide_eq_true h,cond_true,if_neg (by omega)]
 ·rw [decide_eq_false h,cond_false,if_pos (by omega)]
theorem L89_ok {x:(List QIIIIE)} {N:Nat} {left:Int} {kf:Int→Option Ret} (hw:wf (.sl tQIIIIE) x) (hN:sizeV (.sl tQIIIIE) x < N) (h0 : 0≤left) (h1:left≤1048576):L89 N x left kf=kf (szr left (sizeV (.sl tQIIIIE) x)):=by
 have hl:=wf_len hw
 have hm:=maxLen_eq
 have hs:=sizeV_len (t:=tQIIIIE) x
 unfold L89
 rw [wrap64 (by omega) (by omega)]
 rw [sizeV_sl (t:=tQIIIIE) (by decide) x]
 unfold szr
 by_cases h:left - (x.length:Int) < 0
 ·rw [decide_eq_true h,cond_true,if_neg (by omega)]
 ·rw [decide_eq_false h,cond_false,if_pos (by omega)]
theorem L20_ok {x:QLQIIIIILIELQIILIELQIIELILQIIIELQIIIIEIE} {N:Nat} {left:Int} {kf:Int→Option Ret} (hw:wf tQLQIIIIILIELQIILIELQIIELILQIIIELQIIIIEIE x) (hN:sizeV tQLQIIIIILIELQIILIELQIIELILQIIIELQIIIIEIE x < N) (h0 : 0≤left) (h1:left≤1048576):L20 N x left kf=kf (szr left (sizeV tQLQIIIIILIELQIILIELQIIELILQIIIELQIIIIEIE x)):=by
 have hs:sizeV tQLQIIIIILIELQIILIELQIIELILQIIIELQIIIIEIE x=sizeV (.sl tQIIIIILIE) x.1 + sizeV (.sl tQIILIE) x.2.1 + sizeV (.sl tQIIE) x.2.2.1 + sizeV (.sl (.int .i64)) x.2.2.2.1 + sizeV (.sl tQIIIE) x.2.2.2.2.1 + sizeV (.sl tQIIIIE) x.2.2.2.2.2.1:=by simp [sizeV]; omega
 rw [hs] at hN ⊢
 unfold L20
 rw [L84_ok hw.1 (by omega) h0 h1]
 by_cases c0:szr left (sizeV (.sl tQIIIIILIE) x.1) < 0
 ·rw [decide_eq_true c0,cond_true,szr_lt h0 c0 (by omega)]
 rw [decide_eq_false c0,cond_false]
 obtain ⟨p0,q0⟩:=szr_bound h0 h1 c0
 rw [L85_ok hw.2.1 (by omega) p0 q0,szr_then h0 c0]
 by_cases c1:szr left (sizeV (.sl tQIIIIILIE) x.1 + sizeV (.sl tQIILIE) x.2.1) < 0
 ·rw [decide_eq_true c1,cond_true,szr_lt h0 c1 (by omega)]
 rw [decide_eq_false c1,cond_false]
 obtain ⟨p1,q1⟩:=szr_bound h0 h1 c1
 rw [L86_ok hw.2.2.1 (by omega) p1 q1,szr_then h0 c1]
 by_cases c2:szr left (sizeV (.sl tQIIIIILIE) x.1 + sizeV (.sl tQIILIE) x.2.1 + sizeV (.sl tQIIE) x.2.2.1) < 0
 ·rw [decide_eq_true c2,cond_true,szr_lt h0 c2 (by omega)]
 rw [decide_eq_false c2,cond_false]
 obtain ⟨p2,q2⟩:=szr_bound h0 h1 c2
 rw [L87_ok hw.2.2.2.1 (by omega) p2 q2,szr_then h0 c2]
 by_cases c3:szr left (sizeV (.sl tQIIIIILIE) x.1 + sizeV (.sl tQIILIE) x.2.1 + sizeV (.sl tQIIE) x.2.2.1 + sizeV (.sl (.int .i64)) x.2.2.2.1) < 0
 ·rw [decide_eq_true c3,cond_true,szr_lt h0 c3 (by omega)]
 rw [decide_eq_false c3,cond_false]
 obtain ⟨p3,q3⟩:=szr_bound h0 h1 c3
 rw [L88_ok hw.2.2.2.2.1 (by omega) p3 q3,szr_then h0 c3]
 by_cases c4:szr left (sizeV (.sl tQIIIIILIE) x.1 + sizeV (.sl tQIILIE) x.2.1 + sizeV (.sl tQIIE) x.2.2.1 + sizeV (.sl (.int .i64)) x.2.2.2.1 + sizeV (.sl tQIIIE) x.2.2.2.2.1) < 0
 ·rw [decide_eq_true c4,cond_true,szr_lt h0 c4 (by omega)]
 rw [decide_eq_false c4,cond_false]
 obtain ⟨p4,q4⟩:=szr_bound h0 h1 c4
 rw [L89_ok hw.2.2.2.2.2.1 (by omega) p4 q4,szr_then h0 c4]
 by_cases c5:szr left (sizeV (.sl tQIIIIILIE) x.1 + sizeV (.sl tQIILIE) x.2.1 + sizeV (.sl tQIIE) x.2.2.1 + sizeV (.sl (.int .i64)) x.2.2.2.1 + sizeV (.sl tQIIIE) x.2.2.2.2.1 + sizeV (.sl tQIIIIE) x.2.2.2.2.2.1) < 0
 ·rw [decide_eq_true c5,cond_true,szr_lt h0 c5 (by omega)]
 rw [decide_eq_false c5,cond_false]
theorem L98_ok {x:(List Int)} {N:Nat} {kf:(List Int)→Option Ret} (hN:sizeV (.sl (.int .i64)) x < N) (hb:sizeV (.sl (.int .i64)) x≤1048576):L98 N x kf=kf x:=by
 have hs:=sizeV_len (t:=(.int .i64)) x
 have hm:=maxLen_eq
 unfold L98
 rw [lenDec (by omega),cond_true,L98_l3_r (by omega) (by omega)]
 have hg:=goL_to (g:=fun x k=>k x) (kend:=kf) x 0 (List.replicate (Int.toNat (x.length:Int)) (0:Int)) (fun _ _ _=>rfl) (by simp)
 refine Eq.trans hg ?_
 simp
theorem L181_ok {x:QIIIIILIE} {N:Nat} {kf:QIIIIILIE→Option Ret} (hN:sizeV tQIIIIILIE x < N) (hb:sizeV tQIIIIILIE x≤1048576):L181 N x kf=kf x:=by
 have hs:sizeV tQIIIIILIE x=sizeV (.sl (.int .i64)) x.2.2.2.2.2:=by simp [sizeV]
 rw [hs] at hN hb
 unfold L181
 rw [L98_ok (by omega) (by omega)]
theorem L95_ok {x:(List QIIIIILIE)} {N:Nat} {kf:(List QIIIIILIE)→Option Ret} (hN:sizeV (.sl tQIIIIILIE) x < N) (hb:sizeV (.sl tQIIIIILIE) x≤1048576):L95 N x kf=kf x:=by
 have hs:=sizeV_len (t:=tQIIIIILIE) x
 have hm:=maxLen_eq
 unfold L95
 rw [lenDec (by omega),cond_true,L95_l3_r (by omega) (by omega)]
 have hg:=goL_to (g:=fun x k=>L181 N x k) (kend:=kf) x 0 (List.replicate (Int.toNat (x.length:Int)) ((0:Int),((0:Int),((0:Int),((0:Int),((0:Int),([]:(List Int)))))))) (fun y hy k=>L181_ok (by have:=sizeV_mem (t:=tQIIIIILIE) hy; omega) (by have:=sizeV_mem (t:=tQIIIIILIE) hy; omega)) (by simp)
 refine Eq.trans hg ?_
 simp
theorem L182_ok {x:QIILIE} {N:Nat} {kf:QIILIE→Option Ret} (hN:sizeV tQIILIE x < N) (hb:sizeV tQIILIE x≤1048576):L182 N x kf=kf x:=by
 have hs:sizeV tQIILIE x=sizeV (.sl (.int .i64)) x.2.2:=by simp [sizeV]
 rw [hs] at hN hb
 unfold L182
 rw [L98_ok (by omega) (by omega)]
theorem L96_ok {x:(List QIILIE)} {N:Nat} {kf:(List QIILIE)→Option Ret} (hN:sizeV (.sl tQIILIE) x < N) (hb:sizeV (.sl tQIILIE) x≤1048576):L96 N x kf=kf x:=by
 have hs:=sizeV_len (t:=tQIILIE) x
 have hm:=maxLen_eq
 unfold L96
 rw [lenDec (by omega),cond_true,L96_l3_r (by omega) (by omega)]
 have hg:=goL_to (g:=fun x k=>L182 N x k) (kend:=kf) x 0 (List.replicate (Int.toNat (x.length:Int)) ((0:Int),((0:Int),([]:(List Int))))) (fun y hy k=>L182_ok (by have:=sizeV_mem (t:=tQIILIE) hy; omega) (by have:=sizeV_mem (t:=tQIILIE) hy; omega)) (by simp)
 refine Eq.trans hg ?_
 simp
theorem L183_ok {x:QIIE} {N:Nat} {kf:QIIE→Option Ret} (hN:sizeV tQIIE x < N) (hb:sizeV tQIIE x≤1048576):L183 N x kf=kf x:=by
 have hs:sizeV tQIIE x=0:=by simp [sizeV]
 rw [hs] at hN hb
 unfold L183
 rfl
theorem L97_ok {x:(List QIIE)} {N:Nat} {kf:(List QIIE)→Option Ret} (hN:sizeV (.sl tQIIE) x < N) (hb:sizeV (.sl tQIIE) x≤1048576):L97 N x kf=kf x:=by
 have hs:=sizeV_len (t:=tQIIE) x
 have hm:=maxLen_eq
 unfold L97
 rw [lenDec (by omega),cond_true,L97_l3_r (by omega) (by omega)]
 have hg:=goL_to (g:=fun x k=>L183 N x k) (kend:=kf) x 0 (List.replicate (Int.toNat (x.length:Int)) ((0:Int),(0:Int))) (fun y hy k=>L183_ok (by have:=sizeV_mem (t:=tQIIE) hy; omega) (by have:=sizeV_mem (t:=tQIIE) hy; omega)) (by simp)
 refine Eq.trans hg ?_
 simp
theorem L184_ok {x:QIIIE} {N:Nat} {kf:QIIIE→Option Ret} (hN:sizeV tQIIIE x < N) (hb:sizeV tQIIIE x≤1048576):L184 N x kf=kf x:=by
 have hs:sizeV tQIIIE x=0:=by simp [sizeV]
 rw [hs] at hN hb
 unfold L184
 rfl
theorem L99_ok {x:(List QIIIE)} {N:Nat} {kf:(List QIIIE)→Option Ret} (hN:sizeV (.sl tQIIIE) x < N) (hb:sizeV (.sl tQIIIE) x≤1048576):L99 N x kf=kf x:=by
 have hs:=sizeV_len (t:=tQIIIE) x
 have hm:=maxLen_eq
 unfold L99
 rw [lenDec (by omega),cond_true,L99_l3_r (by omega) (by omega)]
 have hg:=goL_to (g:=fun x k=>L184 N x k) (kend:=kf) x 0 (List.replicate (Int.toNat (x.length:Int)) ((0:Int),((0:Int),(0:Int)))) (fun y hy k=>L184_ok (by have:=sizeV_mem (t:=tQIIIE) hy; omega) (by have:=sizeV_mem (t:=tQIIIE) hy; omega)) (by simp)
 refine Eq.trans hg ?_
 simp
theorem L185_ok {x:QIIIIE} {N:Nat} {kf:QIIIIE→Option Ret} (hN:sizeV tQIIIIE x < N) (hb:sizeV tQIIIIE x≤1048576):L185 N x kf=kf x:=by
 have hs:sizeV tQIIIIE x=0:=by simp [sizeV]
 rw [hs] at hN hb
 unfold L185
 rfl
theorem L100_ok {x:(List QIIIIE)} {N:Nat} {kf:(List QIIIIE)→Option Ret} (hN:sizeV (.sl tQIIIIE) x < N) (hb:sizeV (.sl tQIIIIE) x≤1048576):L100 N x kf=kf x:=by
 have hs:=sizeV_len (t:=tQIIIIE) x
 have hm:=maxLen_eq
 unfold L100
 rw [lenDec (by omega),cond_true,L100_l3_r (by omega) (by omega)]
 have hg:=goL_to (g:=fun x k=>L185 N x k) (kend:=kf) x 0 (List.replicate (Int.toNat (x.length:Int)) ((0:Int),((0:Int),((0:Int),(0:Int))))) (fun y hy k=>L185_ok (by have:=sizeV_mem (t:=tQIIIIE) hy; omega) (by have:=sizeV_mem (t:=tQIIIIE) hy; omega)) (by simp)
 refine Eq.trans hg ?_
 simp
theorem L22_ok {x:QLQIIIIILIELQIILIELQIIELILQIIIELQIIIIEIE} {N:Nat} {kf:QLQIIIIILIELQIILIELQIIELILQIIIELQIIIIEIE→Option Ret} (hN:sizeV tQLQIIIIILIELQIILIELQIIELILQIIIELQIIIIEIE x < N) (hb:sizeV tQLQIIIIILIELQIILIELQIIELILQIIIELQIIIIEIE x≤1048576):L22 N x kf=kf x:=by
 have hs:sizeV tQLQIIIIILIELQIILIELQIIELILQIIIELQIIIIEIE x=sizeV (.sl tQIIIIILIE) x.1 + sizeV (.sl tQIILIE) x.2.1 + sizeV (.sl tQIIE) x.2.2.1 + sizeV (.sl (.int .i64)) x.2.2.2.1 + sizeV (.sl tQIIIE) x.2.2.2.2.1 + sizeV (.sl tQIIIIE) x.2.2.2.2.2.1:=by simp [sizeV]; omega
 rw [hs] at hN hb
 unfold L22
 rw [L95_ok (by omega) (by omega)]
 rw [L96_ok (by omega) (by omega)]
 rw [L97_ok (by omega) (by omega)]
 rw [L98_ok (by omega) (by omega)]
 rw [L99_ok (by omega) (by omega)]
 rw [L100_ok (by omega) (by omega)]
theorem L107_ok {x:(List Int)} {N:Nat} {kf:Bool→Option Ret} (hN:sizeV (.sl (.int .i64)) x < N) (hw:sizeV (.sl (.int .i64)) x≤2097152):L107 N x x kf=kf true:=by
 have hs:=sizeV_len (t:=(.int .i64)) x
 have hm:=maxLen_eq
 unfold L107
 simp only [bne_self_eq_false,cond_false]
 rw [L107_l4_r (by omega) (by omega)]
 refine goL_eq (l:=x) (fun i y next h e=>?_) x 0 rfl
 simp only [inB_nat h,Int.toNat_natCast,getD_nat _ i h,e,cond_true]
 simp
theorem L190_ok {x:QIIIIILIE} {N:Nat} {kf:Bool→Option Ret} (hN:sizeV tQIIIIILIE x < N) (hw:sizeV tQIIIIILIE x≤2097152):L190 N x x kf=kf true:=by
 have hs:sizeV tQIIIIILIE x=sizeV (.sl (.int .i64)) x.2.2.2.2.2:=by simp [sizeV]
 rw [hs] at hN hw
 unfold L190
 simp only [bne_self_eq_false,cond_false]
 rw [L107_ok (by omega) (by omega)]
 simp only [Bool.not_true,bne_self_eq_false,cond_false]
theorem L104_ok {x:(List QIIIIILIE)} {N:Nat} {kf:Bool→Option Ret} (hN:sizeV (.sl tQIIIIILIE) x < N) (hw:sizeV (.sl tQIIIIILIE) x≤2097152):L104 N x x kf=kf true:=by
 have hs:=sizeV_len (t:=tQIIIIILIE) x
 have hm:=maxLen_eq
 unfold L104
 simp only [bne_self_eq_false,cond_false]
 rw [L104_l4_r (by omega) (by omega)]
 refine goL_eq (l:=x) (fun i y next h e=>?_) x 0 rfl
 simp only [inB_nat h,Int.toNat_natCast,getD_nat _ i h,e,cond_true]
 have hy:y ∈ x:=by rw [← e]; exact List.getElem_mem h
 rw [L190_ok (by have:=sizeV_mem (t:=tQIIIIILIE) hy; omega) (by have:=sizeV_mem (t:=tQIIIIILIE) hy; omega)]
 simp
theorem L191_ok {x:QIILIE} {N:Nat} {kf:Bool→Option Ret} (hN:sizeV tQIILIE x < N) (hw:sizeV tQIILIE x≤2097152):L191 N x x kf=kf true:=by
 have hs:sizeV tQIILIE x=sizeV (.sl (.int .i64)) x.2.2:=by simp [sizeV]
 rw [hs] at hN hw
 unfold L191
 simp only [bne_self_eq_false,cond_false]
 rw [L107_ok (by omega) (by omega)]
 simp only [Bool.not_true,bne_self_eq_false,cond_false]
theorem L105_ok {x:(List QIILIE)} {N:Nat} {kf:Bool→Option Ret} (hN:sizeV (.sl tQIILIE) x < N) (hw:sizeV (.sl tQIILIE) x≤2097152):L105 N x x kf=kf true:=by
 have hs:=sizeV_len (t:=tQIILIE) x
 have hm:=maxLen_eq
 unfold L105
 simp only [bne_self_eq_false,cond_false]
 rw [L105_l4_r (by omega) (by omega)]
 refine goL_eq (l:=x) (fun i y next h e=>?_) x 0 rfl
 simp only [inB_nat h,Int.toNat_natCast,getD_nat _ i h,e,cond_true]
 have hy:y ∈ x:=by rw [← e]; exact List.getElem_mem h
 rw [L191_ok (by have:=sizeV_mem (t:=tQIILIE) hy; omega) (by have:=sizeV_mem (t:=tQIILIE) hy; omega)]
 simp
theorem L192_ok {x:QIIE} {N:Nat} {kf:Bool→Option Ret} (hN:sizeV tQIIE x < N) (hw:sizeV tQIIE x≤2097152):L192 N x x kf=kf true:=by
 have hs:sizeV tQIIE x=0:=by simp [sizeV]
 rw [hs] at hN hw
 unfold L192
 simp only [bne_self_eq_false,cond_false]
theorem L106_ok {x:(List QIIE)} {N:Nat} {kf:Bool→Option Ret} (hN:sizeV (.sl tQIIE) x < N) (hw:sizeV (.sl tQIIE) x≤2097152):L106 N x x kf=kf true:=by
 have hs:=sizeV_len (t:=tQIIE) x
 have hm:=maxLen_eq
 unfold L106
 simp only [bne_self_eq_false,cond_false]
 rw [L106_l4_r (by omega) (by omega)]
 refine goL_eq (l:=x) (fun i y next h e=>?_) x 0 rfl
 simp only [inB_nat h,Int.toNat_natCast,getD_nat _ i h,e,cond_true]
 have hy:y ∈ x:=by rw [← e]; exact List.getElem_mem h
 rw [L192_ok (by have:=sizeV_mem (t:=tQIIE) hy; omega) (by have:=sizeV_mem (t:=tQIIE) hy; omega)]
 simp
theorem L193_ok {x:QIIIE} {N:Nat} {kf:Bool→Option Ret} (hN:sizeV tQIIIE x < N) (hw:sizeV tQIIIE x≤2097152):L193 N x x kf=kf true:=by
 have hs:sizeV tQIIIE x=0:=by simp [sizeV]
 rw [hs] at hN hw
 unfold L193
 simp only [bne_self_eq_false,cond_false]
theorem L108_ok {x:(List QIIIE)} {N:Nat} {kf:Bool→Option Ret} (hN:sizeV (.sl tQIIIE) x < N) (hw:sizeV (.sl tQIIIE) x≤2097152):L108 N x x kf=kf true:=by
 have hs:=sizeV_len (t:=tQIIIE) x
 have hm:=maxLen_eq
 unfold L108
 simp only [bne_self_eq_false,cond_false]
 rw [L108_l4_r (by omega) (by omega)]
 refine goL_eq (l:=x) (fun i y next h e=>?_) x 0 rfl
 simp only [inB_nat h,Int.toNat_natCast,getD_nat _ i h,e,cond_true]
 have hy:y ∈ x:=by rw [← e]; exact List.getElem_mem h
 rw [L193_ok (by have:=sizeV_mem (t:=tQIIIE) hy; omega) (by have:=sizeV_mem (t:=tQIIIE) hy; omega)]
 simp
theorem L194_ok {x:QIIIIE} {N:Nat} {kf:Bool→Option Ret} (hN:sizeV tQIIIIE x < N) (hw:sizeV tQIIIIE x≤2097152):L194 N x x kf=kf true:=by
 have hs:sizeV tQIIIIE x=0:=by simp [sizeV]
 rw [hs] at hN hw
 unfold L194
 simp only [bne_self_eq_false,cond_false]
theorem L109_ok {x:(List QIIIIE)} {N:Nat} {kf:Bool→Option Ret} (hN:sizeV (.sl tQIIIIE) x < N) (hw:sizeV (.sl tQIIIIE) x≤2097152):L109 N x x kf=kf true:=by
 have hs:=sizeV_len (t:=tQIIIIE) x
 have hm:=maxLen_eq
 unfold L109
 simp only [bne_self_eq_false,cond_false]
 rw [L109_l4_r (by omega) (by omega)]
 refine goL_eq (l:=x) (fun i y next h e=>?_) x 0 rfl
 simp only [inB_nat h,Int.toNat_natCast,getD_nat _ i h,e,cond_true]
 have hy:y ∈ x:=by rw [← e]; exact List.getElem_mem h
 rw [L194_ok (by have:=sizeV_mem (t:=tQIIIIE) hy; omega) (by have:=sizeV_mem (t:=tQIIIIE) hy; omega)]
 simp
theorem L24_ok {x:QLQIIIIILIELQIILIELQIIELILQIIIELQIIIIEIE} {N:Nat} {kf:Bool→Option Ret} (hN:sizeV tQLQIIIIILIELQIILIELQIIELILQIIIELQIIIIEIE x < N) (hw:sizeV tQLQIIIIILIELQIILIELQIIELILQIIIELQIIIIEIE x≤2097152):L24 N x x kf=kf true:=by
 have hs:sizeV tQLQIIIIILIELQIILIELQIIELILQIIIELQIIIIEIE x=sizeV (.sl tQIIIIILIE) x.1 + sizeV (.sl tQIILIE) x.2.1 + sizeV (.sl tQIIE) x.2.2.1 + sizeV (.sl (.int .i64)) x.2.2.2.1 + sizeV (.sl tQIIIE) x.2.2.2.2.1 + sizeV (.sl tQIIIIE) x.2.2.2.2.2.1:=by simp [sizeV]; omega
 rw [hs] at hN hw
 unfold L24
 simp only [bne_self_eq_false,cond_false]
 rw [L104_ok (by omega) (by omega)]
 simp only [Bool.not_true,bne_self_eq_false,cond_false]
 rw [L105_ok (by omega) (by omega)]
 simp only [Bool.not_true,bne_self_eq_false,cond_false]
 rw [L106_ok (by omega) (by omega)]
 simp only [Bool.not_true,bne_self_eq_false,cond_false]
 rw [L107_ok (by omega) (by omega)]
 simp only [Bool.not_true,bne_self_eq_false,cond_false]
 rw [L108_ok (by omega) (by omega)]
 simp only [Bool.not_true,bne_self_eq_false,cond_false]
 rw [L109_ok (by omega) (by omega)]
 simp only [Bool.not_true,bne_self_eq_false,cond_false]
theorem L113_ok {x:(List Int)} {N:Nat} {k:Int} {kf:Int→(List Int)→Option Ret} (hN:sizeV (.sl (.int .i64)) x < N) (hS:sizeV (.sl (.int .i64)) x≤1152921504606846976) (h0 : 0≤k) (hB:(markL (markV (.int .i64)) x k).2≤4611686018427387904):L113 N x k kf=kf (markL (markV (.int .i64)) x k).2 (markL (markV (.int .i64)) x k).1:=by
 have hs:=sizeV_len (t:=(.int .i64)) x
 have:=markL_loop (f:=markV (.int .i64)) (B:=4611686018427387904) (Q:=fun y=>y ∈ x) (L:=fun n xs k i=>L113_l2 n (fun z k=>kf k z) xs k i) (kend:=fun xs k=>kf k xs) (m0:=x.length) (markV_ge _) (fun n xs k i h hm hq h0 hb=>by
   simp only [L113_l2]
   rw [decide_eq_true (show (i:Int) < (xs.length:Int) by omega)]
   simp only [markV_int,markV_pair,markV_sl] at hb
   simp only [cond_true,inB_nat h,Int.toNat_natCast,share,List.length_set,set_set,getD_set _ _ h,getD_nat _ i h]
   simp (disch:=omega) only [markV_int,markV_pair,markV_sl,wrap64]
   rfl) (fun n xs k=>by
   simp only [L113_l2]
   rw [decide_eq_false (by omega)]
   rfl) x [] N k (by simp) (fun _ h=>h) (by omega) h0 hB
 exact this
theorem L110_ok {x:(List QIIIIILIE)} {N:Nat} {k:Int} {kf:Int→(List QIIIIILIE)→Option Ret} (hN:sizeV (.sl tQIIIIILIE) x < N) (hS:sizeV (.sl tQIIIIILIE) x≤1152921504606846976) (h0 : 0≤k) (hB:(markL (markV tQIIIIILIE) x k).2≤4611686018427387904):L110 N x k kf=kf (markL (markV tQIIIIILIE) x k).2 (markL (markV tQIIIIILIE) x k).1:=by
 have hs:=sizeV_len (t:=tQIIIIILIE) x
 have:=markL_loop (f:=markV tQIIIIILIE) (B:=4611686018427387904) (Q:=fun y=>y ∈ x) (L:=fun n xs k i=>L110_l2 N n (fun z k=>kf k z) xs k i) (kend:=fun xs k=>kf k xs) (m0:=x.length) (markV_ge _) (fun n xs k i h hm hq h0 hb=>by
   simp only [L110_l2]
   rw [decide_eq_true (show (i:Int) < (xs.length:Int) by omega)]
   simp only [markV_int,markV_pair,markV_sl] at hb
   simp only [cond_true,inB_nat h,Int.toNat_natCast,share,List.length_set,set_set,getD_set _ _ h,getD_nat _ i h]
   have hg:=markL_ge (t:=(.int .i64)) xs[i].2.2.2.2.2 (k + 1 + 1 + 1 + 1 + 1)
   try simp (disch:=omega) only [wrap64]
   have hz:=sizeV_mem (t:=tQIIIIILIE) hq
   have hy:sizeV (.sl (.int .i64)) xs[i].2.2.2.2.2≤sizeV tQIIIIILIE xs[i]:=by simp [sizeV]
   rw [L113_ok (by omega) (by omega) (by omega) (by omega)]
   simp (disch:=omega) only [markV_int,markV_pair,markV_sl,wrap64]
   rfl) (fun n xs k=>by
   simp only [L110_l2]
   rw [decide_eq_false (by omega)]
   rfl) x [] N k (by simp) (fun _ h=>h) (by omega) h0 hB
 exact this
theorem L111_ok {x:(List QIILIE)} {N:Nat} {k:Int} {kf:Int→(List QIILIE)→Option Ret} (hN:sizeV (.sl tQIILIE) x < N) (hS:sizeV (.sl tQIILIE) x≤1152921504606846976) (h0 : 0≤k) (hB:(markL (markV tQIILIE) x k).2≤4611686018427387904):L111 N x k kf=kf (markL (markV tQIILIE) x k).2 (markL (markV tQIILIE) x k).1:=by
 have hs:=sizeV_len (t:=tQIILIE) x
 have:=markL_loop (f:=markV tQIILIE) (B:=4611686018427387904) (Q:=fun y=>y ∈ x) (L:=fun n xs k i=>L111_l2 N n (fun z k=>kf k z) xs k i) (kend:=fun xs k=>kf k xs) (m0:=x.length) (markV_ge _) (fun n xs k i h hm hq h0 hb=>by
   simp only [L111_l2]
   rw [decide_eq_true (show (i:Int) < (xs.length:Int) by omega)]
   simp only [markV_int,markV_pair,markV_sl] at hb
   simp only [cond_true,inB_nat h,Int.toNat_natCast,share,List.length_set,set_set,getD_set _ _ h,getD_nat _ i h]
   have hg:=markL_ge (t:=(.int .i64)) xs[i].2.2 (k + 1 + 1)
   try simp (disch:=omega) only [wrap64]
   have hz:=sizeV_mem (t:=tQIILIE) hq
   have hy:sizeV (.sl (.int .i64)) xs[i].2.2≤sizeV tQIILIE xs[i]:=by simp [sizeV]
   rw [L113_ok (by omega) (by omega) (by omega) (by omega)]
   simp (disch:=omega) only [markV_int,markV_pair,markV_sl,wrap64]
   rfl) (fun n xs k=>by
   simp only [L111_l2]
   rw [decide_eq_false (by omega)]
   rfl) x [] N k (by simp) (fun _ h=>h) (by omega) h0 hB
 exact this
theorem L112_ok {x:(List QIIE)} {N:Nat} {k:Int} {kf:Int→(List QIIE)→Option Ret} (hN:sizeV (.sl tQIIE) x < N) (hS:sizeV (.sl tQIIE) x≤1152921504606846976) (h0 : 0≤k) (hB:(markL (markV tQIIE) x k).2≤4611686018427387904):L112 N x k kf=kf (markL (markV tQIIE) x k).2 (markL (markV tQIIE) x k).1:=by
 have hs:=sizeV_len (t:=tQIIE) x
 have:=markL_loop (f:=markV tQIIE) (B:=4611686018427387904) (Q:=fun y=>y ∈ x) (L:=fun n xs k i=>L112_l2 n (fun z k=>kf k z) xs k i) (kend:=fun xs k=>kf k xs) (m0:=x.length) (markV_ge _) (fun n xs k i h hm hq h0 hb=>by
   simp only [L112_l2]
   rw [decide_eq_true (show (i:Int) < (xs.length:Int) by omega)]
   simp only [markV_int,markV_pair,markV_sl] at hb
   simp only [cond_true,inB_nat h,Int.toNat_natCast,share,List.length_set,set_set,getD_set _ _ h,getD_nat _ i h]
   simp (disch:=omega) only [markV_int,markV_pair,markV_sl,wrap64]
   rfl) (fun n xs k=>by
   simp only [L112_l2]
   rw [decide_eq_false (by omega)]
   rfl) x [] N k (by simp) (fun _ h=>h) (by omega) h0 hB
 exact this
theorem L114_ok {x:(List QIIIE)} {N:Nat} {k:Int} {kf:Int→(List QIIIE)→Option Ret} (hN:sizeV (.sl tQIIIE) x < N) (hS:sizeV (.sl tQIIIE) x≤1152921504606846976) (h0 : 0≤k) (hB:(markL (markV tQIIIE) x k).2≤4611686018427387904):L114 N x k kf=kf (markL (markV tQIIIE) x k).2 (markL (markV tQIIIE) x k).1:=by
 have hs:=sizeV_len (t:=tQIIIE) x
 have:=markL_loop (f:=markV tQIIIE) (B:=4611686018427387904) (Q:=fun y=>y ∈ x) (L:=fun n xs k i=>L114_l2 n (fun z k=>kf k z) xs k i) (kend:=fun xs k=>kf k xs) (m0:=x.length) (markV_ge _) (fun n xs k i h hm hq h0 hb=>by
   simp only [L114_l2]
   rw [decide_eq_true (show (i:Int) < (xs.length:Int) by omega)]
   simp only [markV_int,markV_pair,markV_sl] at hb
   simp only [cond_true,inB_nat h,Int.toNat_natCast,share,List.length_set,set_set,getD_set _ _ h,getD_nat _ i h]
   simp (disch:=omega) only [markV_int,markV_pair,markV_sl,wrap64]
   rfl) (fun n xs k=>by
   simp only [L114_l2]
   rw [decide_eq_false (by omega)]
   rfl) x [] N k (by simp) (fun _ h=>h) (by omega) h0 hB
 exact this
theorem L115_ok {x:(List QIIIIE)} {N:Nat} {k:Int} {kf:Int→(List QIIIIE)→Option Ret} (hN:sizeV (.sl tQIIIIE) x < N) (hS:sizeV (.sl tQIIIIE) x≤1152921504606846976) (h0 : 0≤k) (hB:(markL (markV tQIIIIE) x k).2≤4611686018427387904):L115 N x k kf=kf (markL (markV tQIIIIE) x k).2 (markL (markV tQIIIIE) x k).1:=by
 have hs:=sizeV_len (t:=tQIIIIE) x
 have:=markL_loop (f:=markV tQIIIIE) (B:=4611686018427387904) (Q:=fun y=>y ∈ x) (L:=fun n xs k i=>L115_l2 n (fun z k=>kf k z) xs k i) (kend:=fun xs k=>kf k xs) (m0:=x.length) (markV_ge _) (fun n xs k i h hm hq h0 hb=>by
   simp only [L115_l2]
   rw [decide_eq_true (show (i:Int) < (xs.length:Int) by omega)]
   simp only [markV_int,markV_pair,markV_sl] at hb
   simp only [cond_true,inB_nat h,Int.toNat_natCast,share,List.length_set,set_set,getD_set _ _ h,getD_nat _ i h]
   simp (disch:=omega) only [markV_int,markV_pair,markV_sl,wrap64]
   rfl) (fun n xs k=>by
   simp only [L115_l2]
   rw [decide_eq_false (by omega)]
   rfl) x [] N k (by simp) (fun _ h=>h) (by omega) h0 hB
 exact this
theorem L25_ok {x:QLQIIIIILIELQIILIELQIIELILQIIIELQIIIIEIE} {N:Nat} {k:Int} {kf:Int→QLQIIIIILIELQIILIELQIIELILQIIIELQIIIIEIE→Option Ret} (hN:sizeV tQLQIIIIILIELQIILIELQIIELILQIIIELQIIIIEIE x < N) (hS:sizeV tQLQIIIIILIELQIILIELQIIELILQIIIELQIIIIEIE x≤1152921504606846976) (h0 : 0≤k) (hB:(markT tQLQIIIIILIELQIILIELQIIELILQIIIELQIIIIEIE x k).2≤4611686018427387904):L25 N x k kf=kf (markT tQLQIIIIILIELQIILIELQIIELILQIIIELQIIIIEIE x k).2 (markT tQLQIIIIILIELQIILIELQIIELILQIIIELQIIIIEIE x k).1:=by
 have hs:sizeV tQLQIIIIILIELQIILIELQIIELILQIIIELQIIIIEIE x=sizeV (.sl tQIIIIILIE) x.1 + sizeV (.sl tQIILIE) x.2.1 + sizeV (.sl tQIIE) x.2.2.1 + sizeV (.sl (.int .i64)) x.2.2.2.1 + sizeV (.sl tQIIIE) x.2.2.2.2.1 + sizeV (.sl tQIIIIE) x.2.2.2.2.2.1:=by simp [sizeV]; omega
 rw [hs] at hN hS
 simp only [markT] at hB ⊢
 unfold L25
 have g0:=markL_ge (t:=tQIIIIILIE) x.1 k
 have g1:=markL_ge (t:=tQIILIE) x.2.1 ((markL (markV tQIIIIILIE) x.1 k).2)
 have g2:=markL_ge (t:=tQIIE) x.2.2.1 ((markL (markV tQIILIE) x.2.1 ((markL (markV tQIIIIILIE) x.1 k).2)).2)
 have g3:=markL_ge (t:=(.int .i64)) x.2.2.2.1 ((markL (markV tQIIE) x.2.2.1 ((markL (markV tQIILIE) x.2.1 ((markL (markV tQIIIIILIE) x.1 k).2)).2)).2)
 have g4:=markL_ge (t:=tQIIIE) x.2.2.2.2.1 ((markL (markV (.int .i64)) x.2.2.2.1 ((markL (markV tQIIE) x.2.2.1 ((markL (markV tQIILIE) x.2.1 ((markL (markV tQIIIIILIE) x.1 k).2)).2)).2)).2)
 have g5:=markL_ge (t:=tQIIIIE) x.2.2.2.2.2.1 ((markL (markV tQIIIE) x.2.2.2.2.1 ((markL (markV (.int .i64)) x.2.2.2.1 ((markL (markV tQIIE) x.2.2.1 ((markL (markV tQIILIE) x.2.1 ((markL (markV tQIIIIILIE) x.1 k).2)).2)).2)).2)).2)
 rw [L110_ok (by omega) (by omega) (by omega) (by omega)]
 rw [L111_ok (by omega) (by omega) (by omega) (by omega)]
 rw [L112_ok (by omega) (by omega) (by omega) (by omega)]
 rw [L113_ok (by omega) (by omega) (by omega) (by omega)]
 rw [L114_ok (by omega) (by omega) (by omega) (by omega)]
 rw [L115_ok (by omega) (by omega) (by omega) (by omega)]
theorem L119_ok {x:(List Int)} {N:Nat} {k:Int} {kf:Int→Option Ret} (hN:sizeV (.sl (.int .i64)) x < N) (hS:sizeV (.sl (.int .i64)) x≤1152921504606846976) (h0 : 0≤k) (hB:(markL (markV (.int .i64)) x k).2≤4611686018427387904):L119 N (markL (markV (.int .i64)) x k).1 k kf=kf (markL (markV (.int .i64)) x k).2:=by
 have hs:=sizeV_len (t:=(.int .i64)) x
 have hl:=markL_len (markV (.int .i64)) x k
 have:=heldL_loop (f:=markV (.int .i64)) (B:=4611686018427387904) (Q:=fun y=>y ∈ x) (xs':=(markL (markV (.int .i64)) x k).1) (L:=fun n k2 i=>L119_l2 (markL (markV (.int .i64)) x k).1 n kf kf k2 i) (kend:=kf) (markV_ge _) (fun n k1 i h y hq hy h0 hb=>by
   simp only [L119_l2]
   rw [decide_eq_true (show (i:Int) < ((markL (markV (.int .i64)) x k).1.length:Int) by omega)]
   simp only [markV_int,markV_pair,markV_sl] at hb hy
   try simp (disch:=omega) only [wrap64] at hy
   simp only [cond_true,inB_nat h,Int.toNat_natCast,getD_nat _ i h,hy]
   try simp (disch:=omega) only [wrap64,bne_self_eq_false,cond_false]
   simp (disch:=omega) only [markV_int,markV_pair,markV_sl,wrap64]
   rfl) (fun n k1=>by
   simp only [L119_l2]
   rw [decide_eq_false (by omega)]
   rfl) x [] N k rfl (fun _ h=>h) (by omega) h0 hB
 exact this
theorem L116_ok {x:(List QIIIIILIE)} {N:Nat} {k:Int} {kf:Int→Option Ret} (hN:sizeV (.sl tQIIIIILIE) x < N) (hS:sizeV (.sl tQIIIIILIE) x≤1152921504606846976) (h0 : 0≤k) (hB:(markL (markV tQIIIIILIE) x k).2≤4611686018427387904):L116 N (markL (markV tQIIIIILIE) x k).1 k kf=kf (markL (markV tQIIIIILIE) x k).2:=by
 have hs:=sizeV_len (t:=tQIIIIILIE) x
 have hl:=markL_len (markV tQIIIIILIE) x k
 have:=heldL_loop (f:=markV tQIIIIILIE) (B:=4611686018427387904) (Q:=fun y=>y ∈ x) (xs':=(markL (markV tQIIIIILIE) x k).1) (L:=fun n k2 i=>L116_l2 N (markL (markV tQIIIIILIE) x k).1 n kf kf k2 i) (kend:=kf) (markV_ge _) (fun n k1 i h y hq hy h0 hb=>by
   simp only [L116_l2]
   rw [decide_eq_true (show (i:Int) < ((markL (markV tQIIIIILIE) x k).1.length:Int) by omega)]
   simp only [markV_int,markV_pair,markV_sl] at hb hy
   have hg:=markL_ge (t:=(.int .i64)) y.2.2.2.2.2 (k1 + 1 + 1 + 1 + 1 + 1)
   have hz:=sizeV_mem (t:=tQIIIIILIE) hq
   have hw:sizeV (.sl (.int .i64)) y.2.2.2.2.2≤sizeV tQIIIIILIE y:=by simp [sizeV]
   try simp (disch:=omega) only [wrap64] at hy
   simp only [cond_true,inB_nat h,Int.toNat_natCast,getD_nat _ i h,hy]
   try simp (disch:=omega) only [wrap64,bne_self_eq_false,cond_false]
   rw [L119_ok (by omega) (by omega) (by omega) (by omega),decide_eq_false (by omega),cond_false]
   simp (disch:=omega) only [markV_int,markV_pair,markV_sl,wrap64]
   rfl) (fun n k1=>by
   simp only [L116_l2]
   rw [decide_eq_false (by omega)]
   rfl) x [] N k rfl (fun _ h=>h) (by omega) h0 hB
 exact this
theorem L117_ok {x:(List QIILIE)} {N:Nat} {k:Int} {kf:Int→Option Ret} (hN:sizeV (.sl tQIILIE) x < N) (hS:sizeV (.sl tQIILIE) x≤1152921504606846976) (h0 : 0≤k) (hB:(markL (markV tQIILIE) x k).2≤4611686018427387904):L117 N (markL (markV tQIILIE) x k).1 k kf=kf (markL (markV tQIILIE) x k).2:=by
 have hs:=sizeV_len (t:=tQIILIE) x
 have hl:=markL_len (markV tQIILIE) x k
 have:=heldL_loop (f:=markV tQIILIE) (B:=4611686018427387904) (Q:=fun y=>y ∈ x) (xs':=(markL (markV tQIILIE) x k).1) (L:=fun n k2 i=>L117_l2 N (markL (markV tQIILIE) x k).1 n kf kf k2 i) (kend:=kf) (markV_ge _) (fun n k1 i h y hq hy h0 hb=>by
   simp only [L117_l2]
   rw [decide_eq_true (show (i:Int) < ((markL (markV tQIILIE) x k).1.length:Int) by omega)]
   simp only [markV_int,markV_pair,markV_sl] at hb hy
   have hg:=markL_ge (t:=(.int .i64)) y.2.2 (k1 + 1 + 1)
   have hz:=sizeV_mem (t:=tQIILIE) hq
   have hw:sizeV (.sl (.int .i64)) y.2.2≤sizeV tQIILIE y:=by simp [sizeV]
   try simp (disch:=omega) only [wrap64] at hy
   simp only [cond_true,inB_nat h,Int.toNat_natCast,getD_nat _ i h,hy]
   try simp (disch:=omega) only [wrap64,bne_self_eq_false,cond_false]
   rw [L119_ok (by omega) (by omega) (by omega) (by omega),decide_eq_false (by omega),cond_false]
   simp (disch:=omega) only [markV_int,markV_pair,markV_sl,wrap64]
   rfl) (fun n k1=>by
   simp only [L117_l2]
   rw [decide_eq_false (by omega)]
   rfl) x [] N k rfl (fun _ h=>h) (by omega) h0 hB
 exact this
theorem L118_ok {x:(List QIIE)} {N:Nat} {k:Int} {kf:Int→Option Ret} (hN:sizeV (.sl tQIIE) x < N) (hS:sizeV (.sl tQIIE) x≤1152921504606846976) (h0 : 0≤k) (hB:(markL (markV tQIIE) x k).2≤4611686018427387904):L118 N (markL (markV tQIIE) x k).1 k kf=kf (markL (markV tQIIE) x k).2:=by
 have hs:=sizeV_len (t:=tQIIE) x
 have hl:=markL_len (markV tQIIE) x k
 have:=heldL_loop (f:=markV tQIIE) (B:=4611686018427387904) (Q:=fun y=>y ∈ x) (xs':=(markL (markV tQIIE) x k).1) (L:=fun n k2 i=>L118_l2 (markL (markV tQIIE) x k).1 n kf kf k2 i) (kend:=kf) (markV_ge _) (fun n k1 i h y hq hy h0 hb=>by
   simp only [L118_l2]
   rw [decide_eq_true (show (i:Int) < ((markL (markV tQIIE) x k).1.length:Int) by omega)]
   simp only [markV_int,markV_pair,markV_sl] at hb hy
   try simp (disch:=omega) only [wrap64] at hy
   simp only [cond_true,inB_nat h,Int.toNat_natCast,getD_nat _ i h,hy]
   try simp (disch:=omega) only [wrap64,bne_self_eq_false,cond_false]
   simp (disch:=omega) only [markV_int,markV_pair,markV_sl,wrap64]
   rfl) (fun n k1=>by
   simp only [L118_l2]
   rw [decide_eq_false (by omega)]
   rfl) x [] N k rfl (fun _ h=>h) (by omega) h0 hB
 exact this
theorem L120_ok {x:(List QIIIE)} {N:Nat} {k:Int} {kf:Int→Option Ret} (hN:sizeV (.sl tQIIIE) x < N) (hS:sizeV (.sl tQIIIE) x≤1152921504606846976) (h0 : 0≤k) (hB:(markL (markV tQIIIE) x k).2≤4611686018427387904):L120 N (markL (markV tQIIIE) x k).1 k kf=kf (markL (markV tQIIIE) x k).2:=by
 have hs:=sizeV_len (t:=tQIIIE) x
 have hl:=markL_len (markV tQIIIE) x k
 have:=heldL_loop (f:=markV tQIIIE) (B:=4611686018427387904) (Q:=fun y=>y ∈ x) (xs':=(markL (markV tQIIIE) x k).1) (L:=fun n k2 i=>L120_l2 (markL (markV tQIIIE) x k).1 n kf kf k2 i) (kend:=kf) (markV_ge _) (fun n k1 i h y hq hy h0 hb=>by
   simp only [L120_l2]
   rw [decide_eq_true (show (i:Int) < ((markL (markV tQIIIE) x k).1.length:Int) by omega)]
   simp only [markV_int,markV_pair,markV_sl] at hb hy
   try simp (disch:=omega) only [wrap64] at hy
   simp only [cond_true,inB_nat h,Int.toNat_natCast,getD_nat _ i h,hy]
   try simp (disch:=omega) only [wrap64,bne_self_eq_false,cond_false]
   simp (disch:=omega) only [markV_int,markV_pair,markV_sl,wrap64]
   rfl) (fun n k1=>by
   simp only [L120_l2]
   rw [decide_eq_false (by omega)]
   rfl) x [] N k rfl (fun _ h=>h) (by omega) h0 hB
 exact this
theorem L121_ok {x:(List QIIIIE)} {N:Nat} {k:Int} {kf:Int→Option Ret} (hN:sizeV (.sl tQIIIIE) x < N) (hS:sizeV (.sl tQIIIIE) x≤1152921504606846976) (h0 : 0≤k) (hB:(markL (markV tQIIIIE) x k).2≤4611686018427387904):L121 N (markL (markV tQIIIIE) x k).1 k kf=kf (markL (markV tQIIIIE) x k).2:=by
 have hs:=sizeV_len (t:=tQIIIIE) x
 have hl:=markL_len (markV tQIIIIE) x k
 have:=heldL_loop (f:=markV tQIIIIE) (B:=4611686018427387904) (Q:=fun y=>y ∈ x) (xs':=(markL (markV tQIIIIE) x k).1) (L:=fun n k2 i=>L121_l2 (markL (markV tQIIIIE) x k).1 n kf kf k2 i) (kend:=kf) (markV_ge _) (fun n k1 i h y hq hy h0 hb=>by
   simp only [L121_l2]
   rw [decide_eq_true (show (i:Int) < ((markL (markV tQIIIIE) x k).1.length:Int) by omega)]
   simp only [markV_int,markV_pair,markV_sl] at hb hy
   try simp (disch:=omega) only [wrap64] at hy
   simp only [cond_true,inB_nat h,Int.toNat_natCast,getD_nat _ i h,hy]
   try simp (disch:=omega) only [wrap64,bne_self_eq_false,cond_false]
   simp (disch:=omega) only [markV_int,markV_pair,markV_sl,wrap64]
   rfl) (fun n k1=>by
   simp only [L121_l2]
   rw [decide_eq_false (by omega)]
   rfl) x [] N k rfl (fun _ h=>h) (by omega) h0 hB
 exact this
theorem L26_ok {x:QLQIIIIILIELQIILIELQIIELILQIIIELQIIIIEIE} {N:Nat} {k:Int} {kf:Int→Option Ret} (hN:sizeV tQLQIIIIILIELQIILIELQIIELILQIIIELQIIIIEIE x < N) (hS:sizeV tQLQIIIIILIELQIILIELQIIELILQIIIELQIIIIEIE x≤1152921504606846976) (h0 : 0≤k) (hB:(markT tQLQIIIIILIELQIILIELQIIELILQIIIELQIIIIEIE x k).2≤4611686018427387904):L26 N (markT tQLQIIIIILIELQIILIELQIIELILQIIIELQIIIIEIE x k).1 k kf=kf (markT tQLQIIIIILIELQIILIELQIIELILQIIIELQIIIIEIE x k).2:=by
 have hs:sizeV tQLQIIIIILIELQIILIELQIIELILQIIIELQIIIIEIE x=sizeV (.sl tQIIIIILIE) x.1 + sizeV (.sl tQIILIE) x.2.1 + sizeV (.sl tQIIE) x.2.2.1 + sizeV (.sl (.int .i64)) x.2.2.2.1 + sizeV (.sl tQIIIE) x.2.2.2.2.1 + sizeV (.sl tQIIIIE) x.2.2.2.2.2.1:=by simp [sizeV]; omega
 rw [hs] at hN hS
 simp only [markT] at hB ⊢
 unfold L26
 have g0:=markL_ge (t:=tQIIIIILIE) x.1 k
 have g1:=markL_ge (t:=tQIILIE) x.2.1 ((markL (markV tQIIIIILIE) x.1 k).2)
 have g2:=markL_ge (t:=tQIIE) x.2.2.1 ((markL (markV tQIILIE) x.2.1 ((markL (markV tQIIIIILIE) x.1 k).2)).2)
 have g3:=markL_ge (t:=(.int .i64)) x.2.2.2.1 ((markL (markV tQIIE) x.2.2.1 ((markL (markV tQIILIE) x.2.1 ((markL (markV tQIIIIILIE) x.1 k).2)).2)).2)
 have g4:=markL_ge (t:=tQIIIE) x.2.2.2.2.1 ((markL (markV (.int .i64)) x.2.2.2.1 ((markL (markV tQIIE) x.2.2.1 ((markL (markV tQIILIE) x.2.1 ((markL (markV tQIIIIILIE) x.1 k).2)).2)).2)).2)
 have g5:=markL_ge (t:=tQIIIIE) x.2.2.2.2.2.1 ((markL (markV tQIIIE) x.2.2.2.2.1 ((markL (markV (.int .i64)) x.2.2.2.1 ((markL (markV tQIIE) x.2.2.1 ((markL (markV tQIILIE) x.2.1 ((markL (markV tQIIIIILIE) x.1 k).2)).2)).2)).2)).2)
 rw [L116_ok (by omega) (by omega) (by omega) (by omega)]
 rw [decide_eq_false (by omega),cond_false]
 rw [L117_ok (by omega) (by omega) (by omega) (by omega)]
 rw [decide_eq_false (by omega),cond_false]
 rw [L118_ok (by omega) (by omega) (by omega) (by omega)]
 rw [decide_eq_false (by omega),cond_false]
 rw [L119_ok (by omega) (by omega) (by omega) (by omega)]
 rw [decide_eq_false (by omega),cond_false]
 rw [L120_ok (by omega) (by omega) (by omega) (by omega)]
 rw [decide_eq_false (by omega),cond_false]
 rw [L121_ok (by omega) (by omega) (by omega) (by omega)]
 rw [decide_eq_false (by omega),cond_false]
end Go.Pv.R
