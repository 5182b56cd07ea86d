/- Their loops over lists, without rounds. -/
import Derived.Test.YtcpakhaogbempaaGreatPlRes
namespace Go.Pv.R
set_option linter.unusedVariables false
set_option linter.unusedSimpArgs false
theorem ZE {N:Nat} {eW:(List QT)} {bB:(List QT)→Option aa} {bu:(List QT)} (hl:(List.length eW)≤maxLen) {n:Nat} (hn:(List.length eW)<n):pY N eW (List.length eW:Int) n bB bu (0:Int)=
  ca (fun(i:Nat) (x:QT) (bu:(List QT)) (next:(List QT)→Option aa)=>
    Je N x.2.2.2.2.2 (fun(sv:(List Int))=>
     bif (decide ((List.length bu+List.length [(x.1,(x.2.1,(x.2.2.1,(x.2.2.2.1,(x.2.2.2.2.1,sv)))))])*6≤4398046511104)) then
      next (bu++[(x.1,(x.2.1,(x.2.2.1,(x.2.2.2.1,(x.2.2.2.2.1,sv)))))])
     else none)) (fun(bu:(List QT))=>
    bB bu) eW 0 bu:=by
 exact cL (f:=fun n bu i=>pY N eW (List.length eW:Int) n bB bu i) (l:=eW) (fun n i bu h=>by
  simp only[pY]
  rw[decide_eq_true (show(i:Int)<(List.length eW:Int) by omega)]
  simp only[cond_true,an h,Int.toNat_natCast,ah _ i h]) (fun n bu=>by
  simp only[pY]
  rw[decide_eq_false (by omega)]
  simp only[cond_false]) hl eW 0 n bu rfl (by omega) hn
theorem ZF {N:Nat} {eW:(List QJ)} {bB:(List QJ)→Option aa} {bu:(List QJ)} (hl:(List.length eW)≤maxLen) {n:Nat} (hn:(List.length eW)<n):pZ N eW (List.length eW:Int) n bB bu (0:Int)=
  ca (fun(i:Nat) (x:QJ) (bu:(List QJ)) (next:(List QJ)→Option aa)=>
    Je N x.2.2 (fun(sv:(List Int))=>
     bif (decide ((List.length bu+List.length [(x.1,(x.2.1,sv))])*3≤4398046511104)) then
      next (bu++[(x.1,(x.2.1,sv))])
     else none)) (fun(bu:(List QJ))=>
    bB bu) eW 0 bu:=by
 exact cL (f:=fun n bu i=>pZ N eW (List.length eW:Int) n bB bu i) (l:=eW) (fun n i bu h=>by
  simp only[pZ]
  rw[decide_eq_true (show(i:Int)<(List.length eW:Int) by omega)]
  simp only[cond_true,an h,Int.toNat_natCast,ah _ i h]) (fun n bu=>by
  simp only[pZ]
  rw[decide_eq_false (by omega)]
  simp only[cond_false]) hl eW 0 n bu rfl (by omega) hn
theorem ZG {N:Nat} {ae:(List QT)} {aw:Int} {fh:Option aa} {fi:Int→Option aa} (hl:(List.length ae)≤maxLen) {n:Nat} (hn:(List.length ae)<n):p5 N ae aw (List.length ae:Int) n fh fi (0:Int)=
  k9 (fun(i:Nat) (x:QT) (next:Option aa)=>
    aiy N x aw (fun(mP:Bool)=>
     bif mP then
      fi (i:Int)
     else
      next)) (
    fh) ae 0:=by
 exact b5 (f:=fun n i=>p5 N ae aw (List.length ae:Int) n fh fi i) (l:=ae) (fun n i h=>by
  simp only[p5]
  rw[decide_eq_true (show(i:Int)<(List.length ae:Int) by omega)]
  simp only[cond_true,an h,Int.toNat_natCast,ah _ i h]) (fun n=>by
  simp only[p5]
  rw[decide_eq_false (by omega)]
  simp only[cond_false]) hl ae 0 n rfl (by omega) hn
theorem ZH {N:Nat} {jh:(List Int)} {bB:Int→Option aa} {bu:Int} (hl:(List.length jh)≤maxLen) {n:Nat} (hn:(List.length jh)<n):p6 N jh (List.length jh:Int) n bB bu (0:Int)=
  ca (fun(i:Nat) (x:Int) (bu:Int) (next:Int→Option aa)=>
    aiB N bu x (fun(NI:Int)=>
     next NI)) (fun(bu:Int)=>
    bB bu) jh 0 bu:=by
 exact cL (f:=fun n bu i=>p6 N jh (List.length jh:Int) n bB bu i) (l:=jh) (fun n i bu h=>by
  simp only[p6]
  rw[decide_eq_true (show(i:Int)<(List.length jh:Int) by omega)]
  simp only[cond_true,an h,Int.toNat_natCast,ah _ i h]) (fun n bu=>by
  simp only[p6]
  rw[decide_eq_false (by omega)]
  simp only[cond_false]) hl jh 0 n bu rfl (by omega) hn
theorem adK {N:Nat} {p7:(List QL)} {iQ:Option aa} {iD:Bool→Option aa} {bu:Int} (hl:(List.length p7)≤maxLen) {n:Nat} (hn:(List.length p7)<n):vq N p7 (List.length p7:Int) n iQ iD bu (0:Int)=
  ca (fun(i:Nat) (x:QL) (bu:Int) (next:Int→Option aa)=>
    bif (x.1 != (IntKind.wrap .i64 ((i:Int)+(1:Int)))) then
     iD false
    else
     eX N x.2.1 (1:Int) (9:Int) (fun(xE:Bool)=>
      bif (!xE) then
       iD false
      else
       eX N x.2.2.1 (0:Int) (99:Int) (fun(NJ:Bool)=>
        bif (!NJ) then
         iD false
        else
         R5 N bu x (fun(NK:Int)=>
          bif (x.2.2.2 != NK) then
           iD false
          else
           next x.2.2.2)))) (fun(bu:Int)=>
    iQ) p7 0 bu:=by
 exact cL (f:=fun n bu i=>vq N p7 (List.length p7:Int) n iQ iD bu i) (l:=p7) (fun n i bu h=>by
  simp only[vq]
  rw[decide_eq_true (show(i:Int)<(List.length p7:Int) by omega)]
  simp only[cond_true,an h,Int.toNat_natCast,ah _ i h]) (fun n bu=>by
  simp only[vq]
  rw[decide_eq_false (by omega)]
  simp only[cond_false]) hl p7 0 n bu rfl (by omega) hn
theorem adL {ee:Int} {la:(List Int)} {cq:Int→Option aa} {ft:Int} (hl:(List.length la)≤maxLen) {n:Nat} (hn:(List.length la)<n):sx ee la (List.length la:Int) n cq ft (0:Int)=
  ca (fun(i:Nat) (x:Int) (ft:Int) (next:Int→Option aa)=>
    bif (x==ee) then
     next (IntKind.wrap .i64 (ft+(1:Int)))
    else
     next ft) (fun(ft:Int)=>
    cq ft) la 0 ft:=by
 exact cL (f:=fun n ft i=>sx ee la (List.length la:Int) n cq ft i) (l:=la) (fun n i ft h=>by
  simp only[sx]
  rw[decide_eq_true (show(i:Int)<(List.length la:Int) by omega)]
  simp only[cond_true,an h,Int.toNat_natCast,ah _ i h]) (fun n ft=>by
  simp only[sx]
  rw[decide_eq_false (by omega)]
  simp only[cond_false]) hl la 0 n ft rfl (by omega) hn
theorem SK {N:Nat} {uA:(List QT)} {uB:QT} {Jg:(List QT)} {Jh:Int} {Ji:Int} {ib:(List Int)} {oS:Option aa} {im:Bool→Option aa} (hl:(List.length ib)≤maxLen) {n:Nat} (hn:(List.length ib)<n):il N uA uB Jg Jh Ji ib (List.length ib:Int) n oS im (0:Int)=
  k9 (fun(i:Nat) (x:Int) (next:Option aa)=>
    NH N uA x (fun(vt:Int)=>
     bif (decide (vt<(0:Int))) then
      im false
     else
      bif (x==uB.1) then
       im false
      else
       bif (aO vt (List.length uA)) then
        I78 N uB.2.2.2.2.2 x (fun(R6:Int)=>
         I78 N (List.getD uA (Int.toNat vt) ak).2.2.2.2.2 uB.1 (fun(Jj:Int)=>
          bif (R6 != Jj) then
           im false
          else
           next))
       else none)) (
    oS) ib 0:=by
 exact b5 (f:=fun n i=>il N uA uB Jg Jh Ji ib (List.length ib:Int) n oS im i) (l:=ib) (fun n i h=>by
  simp only[il]
  rw[decide_eq_true (show(i:Int)<(List.length ib:Int) by omega)]
  simp only[cond_true,an h,Int.toNat_natCast,ah _ i h]) (fun n=>by
  simp only[il]
  rw[decide_eq_false (by omega)]
  simp only[cond_false]) hl ib 0 n rfl (by omega) hn
theorem ZI {N:Nat} {ae:(List QT)} {cH:(List QT)} {p8:Option aa} {bz:Bool→Option aa} (hl:(List.length cH)≤maxLen) {n:Nat} (hn:(List.length cH)<n):nC N ae cH (List.length cH:Int) n p8 bz (0:Int)=
  k9 (fun(i:Nat) (x:QT) (next:Option aa)=>
    eX N x.1 (1:Int) (99:Int) (fun(xE:Bool)=>
     bif (!xE) then
      bz false
     else
      bif (decide ((i:Int)>(0:Int))) then
       bif (aO (IntKind.wrap .i64 ((i:Int) - (1:Int))) (List.length ae)) then
        bif (decide (x.1≤(List.getD ae (Int.toNat (IntKind.wrap .i64 ((i:Int) - (1:Int)))) ak).1)) then
         bz false
        else
         eX N x.2.1 (1:Int) (99:Int) (fun(ac3:Bool)=>
          bif (!ac3) then
           bz false
          else
           bif (decide ((List.length x.2.2.2.2.2:Int)>(20:Int))) then
            bz false
           else
            eX N x.2.2.1 (0:Int) (List.length x.2.2.2.2.2:Int) (fun(H5:Bool)=>
             bif (!H5) then
              bz false
             else
              eX N x.2.2.2.2.1 (0:Int) (List.length x.2.2.2.2.2:Int) (fun(ac4:Bool)=>
               bif (!ac4) then
                bz false
               else
                eX N x.2.2.2.1 (0:Int) (100000:Int) (fun(R7:Bool)=>
                 bif (!R7) then
                  bz false
                 else
                  il N ae x cH (List.length cH:Int) (i:Int) x.2.2.2.2.2 (List.length x.2.2.2.2.2:Int) N next bz (0:Int)))))
       else none
      else
       eX N x.2.1 (1:Int) (99:Int) (fun(R8:Bool)=>
        bif (!R8) then
         bz false
        else
         bif (decide ((List.length x.2.2.2.2.2:Int)>(20:Int))) then
          bz false
         else
          eX N x.2.2.1 (0:Int) (List.length x.2.2.2.2.2:Int) (fun(R9:Bool)=>
           bif (!R9) then
            bz false
           else
            eX N x.2.2.2.2.1 (0:Int) (List.length x.2.2.2.2.2:Int) (fun(p9:Bool)=>
             bif (!p9) then
              bz false
             else
              eX N x.2.2.2.1 (0:Int) (100000:Int) (fun(Sa:Bool)=>
               bif (!Sa) then
                bz false
               else
                il N ae x cH (List.length cH:Int) (i:Int) x.2.2.2.2.2 (List.length x.2.2.2.2.2:Int) N next bz (0:Int))))))) (
    p8) cH 0:=by
 exact b5 (f:=fun n i=>nC N ae cH (List.length cH:Int) n p8 bz i) (l:=cH) (fun n i h=>by
  simp only[nC,Dm]
  rw[decide_eq_true (show(i:Int)<(List.length cH:Int) by omega)]
  simp only[cond_true,an h,Int.toNat_natCast,ah _ i h]) (fun n=>by
  simp only[nC,Dm]
  rw[decide_eq_false (by omega)]
  simp only[cond_false]) hl cH 0 n rfl (by omega) hn
theorem adM {N:Nat} {NM:(List QJ)} {fj:QJ} {E0:(List QJ)} {E3:Int} {E4:Int} {ic:(List Int)} {qa:Option aa} {lU:Bool→Option aa} (hl:(List.length ic)≤maxLen) {n:Nat} (hn:(List.length ic)<n):mQ N NM fj E0 E3 E4 ic (List.length ic:Int) n qa lU (0:Int)=
  k9 (fun(i:Nat) (x:Int) (next:Option aa)=>
    eX N x (1:Int) (99:Int) (fun(Sc:Bool)=>
     bif (!Sc) then
      lU false
     else
      bif (decide ((i:Int)>(0:Int))) then
       bif (aO (IntKind.wrap .i64 ((i:Int) - (1:Int))) (List.length fj.2.2)) then
        bif (decide (x≤(List.getD fj.2.2 (Int.toNat (IntKind.wrap .i64 ((i:Int) - (1:Int)))) (0:Int)))) then
         lU false
        else
         next
       else none
      else
       next)) (
    qa) ic 0:=by
 exact b5 (f:=fun n i=>mQ N NM fj E0 E3 E4 ic (List.length ic:Int) n qa lU i) (l:=ic) (fun n i h=>by
  simp only[mQ]
  rw[decide_eq_true (show(i:Int)<(List.length ic:Int) by omega)]
  simp only[cond_true,an h,Int.toNat_natCast,ah _ i h]) (fun n=>by
  simp only[mQ]
  rw[decide_eq_false (by omega)]
  simp only[cond_false]) hl ic 0 n rfl (by omega) hn
theorem adN {N:Nat} {ae:(List QJ)} {eK:(List QJ)} {qc:Option aa} {dH:Bool→Option aa} (hl:(List.length eK)≤maxLen) {n:Nat} (hn:(List.length eK)<n):sy N ae eK (List.length eK:Int) n qc dH (0:Int)=
  k9 (fun(i:Nat) (x:QJ) (next:Option aa)=>
    eX N x.1 (1:Int) (99:Int) (fun(ac5:Bool)=>
     bif (!ac5) then
      dH false
     else
      bif (decide ((i:Int)>(0:Int))) then
       bif (aO (IntKind.wrap .i64 ((i:Int) - (1:Int))) (List.length ae)) then
        bif (decide (x.1≤(List.getD ae (Int.toNat (IntKind.wrap .i64 ((i:Int) - (1:Int)))) ck).1)) then
         dH false
        else
         eX N x.2.1 (1:Int) (99:Int) (fun(ac6:Bool)=>
          bif (!ac6) then
           dH false
          else
           mQ N ae x eK (List.length eK:Int) (i:Int) x.2.2 (List.length x.2.2:Int) N next dH (0:Int))
       else none
      else
       eX N x.2.1 (1:Int) (99:Int) (fun(sz:Bool)=>
        bif (!sz) then
         dH false
        else
         mQ N ae x eK (List.length eK:Int) (i:Int) x.2.2 (List.length x.2.2:Int) N next dH (0:Int)))) (
    qc) eK 0:=by
 exact b5 (f:=fun n i=>sy N ae eK (List.length eK:Int) n qc dH i) (l:=eK) (fun n i h=>by
  simp only[sy,Jk]
  rw[decide_eq_true (show(i:Int)<(List.length eK:Int) by omega)]
  simp only[cond_true,an h,Int.toNat_natCast,ah _ i h]) (fun n=>by
  simp only[sy,Jk]
  rw[decide_eq_false (by omega)]
  simp only[cond_false]) hl eK 0 n rfl (by omega) hn
theorem Ia {ae:(List Int)} {aw:Int} {AD:Option aa} {AE:Int→Option aa} (hl:(List.length ae)≤maxLen) {n:Nat} (hn:(List.length ae)<n):qd ae aw (List.length ae:Int) n AD AE (0:Int)=
  k9 (fun(i:Nat) (x:Int) (next:Option aa)=>
    bif (aw==x) then
     AE (i:Int)
    else
     next) (
    AD) ae 0:=by
 exact b5 (f:=fun n i=>qd ae aw (List.length ae:Int) n AD AE i) (l:=ae) (fun n i h=>by
  simp only[qd]
  rw[decide_eq_true (show(i:Int)<(List.length ae:Int) by omega)]
  simp only[cond_true,an h,Int.toNat_natCast,ah _ i h]) (fun n=>by
  simp only[qd]
  rw[decide_eq_false (by omega)]
  simp only[cond_false]) hl ae 0 n rfl (by omega) hn
theorem ZJ {N:Nat} {j8:(List Int)} {jI:(List QT)} {oT:Option aa} {oU:Bool→Option aa} (hl:(List.length jI)≤maxLen) {n:Nat} (hn:(List.length jI)<n):qe N j8 jI (List.length jI:Int) n oT oU (0:Int)=
  k9 (fun(i:Nat) (x:QT) (next:Option aa)=>
    I78 N j8 x.1 (fun(Se:Int)=>
     bif (Se != (1:Int)) then
      oU false
     else
      next)) (
    oT) jI 0:=by
 exact b5 (f:=fun n i=>qe N j8 jI (List.length jI:Int) n oT oU i) (l:=jI) (fun n i h=>by
  simp only[qe]
  rw[decide_eq_true (show(i:Int)<(List.length jI:Int) by omega)]
  simp only[cond_true,an h,Int.toNat_natCast,ah _ i h]) (fun n=>by
  simp only[qe]
  rw[decide_eq_false (by omega)]
  simp only[cond_false]) hl jI 0 n rfl (by omega) hn
theorem adO {N:Nat} {ae:(List QT)} {fk:(List br)} {cq:(List Int)→Option aa} {fL:Bool→Option aa} {ft:(List Int)} (hl:(List.length fk)≤maxLen) {n:Nat} (hn:(List.length fk)<n):vu N ae fk (List.length fk:Int) n cq fL ft (0:Int)=
  ca (fun(i:Nat) (x:br) (ft:(List Int)) (next:(List Int)→Option aa)=>
    I77 N ae x.1 x.2 (fun(lf:Bool)=>
     bif (!lf) then
      fL false
     else
      bif (decide ((List.length ft+List.length [x.1,x.2])*1≤4398046511104)) then
       next (ft++[x.1,x.2])
      else none)) (fun(ft:(List Int))=>
    cq ft) fk 0 ft:=by
 exact cL (f:=fun n ft i=>vu N ae fk (List.length fk:Int) n cq fL ft i) (l:=fk) (fun n i ft h=>by
  simp only[vu]
  rw[decide_eq_true (show(i:Int)<(List.length fk:Int) by omega)]
  simp only[cond_true,an h,Int.toNat_natCast,ah _ i h]) (fun n ft=>by
  simp only[vu]
  rw[decide_eq_false (by omega)]
  simp only[cond_false]) hl fk 0 n ft rfl (by omega) hn
theorem adP {N:Nat} {ae:(List QJ)} {aw:Int} {fh:Option aa} {fi:Int→Option aa} (hl:(List.length ae)≤maxLen) {n:Nat} (hn:(List.length ae)<n):vw N ae aw (List.length ae:Int) n fh fi (0:Int)=
  k9 (fun(i:Nat) (x:QJ) (next:Option aa)=>
    I81 N x aw (fun(mP:Bool)=>
     bif mP then
      fi (i:Int)
     else
      next)) (
    fh) ae 0:=by
 exact b5 (f:=fun n i=>vw N ae aw (List.length ae:Int) n fh fi i) (l:=ae) (fun n i h=>by
  simp only[vw]
  rw[decide_eq_true (show(i:Int)<(List.length ae:Int) by omega)]
  simp only[cond_true,an h,Int.toNat_natCast,ah _ i h]) (fun n=>by
  simp only[vw]
  rw[decide_eq_false (by omega)]
  simp only[cond_false]) hl ae 0 n rfl (by omega) hn
theorem adQ {N:Nat} {ae:(List QT)} {AF:QJ} {mR:(List Int)} {sA:Option aa} {kM:Bool→Option aa} (hl:(List.length mR)≤maxLen) {n:Nat} (hn:(List.length mR)<n):vz N ae AF mR (List.length mR:Int) n sA kM (0:Int)=
  k9 (fun(i:Nat) (x:Int) (next:Option aa)=>
    NH N ae x (fun(lf:Int)=>
     bif (decide (lf<(0:Int))) then
      kM false
     else
      bif (aO lf (List.length ae)) then
       bif ((List.getD ae (Int.toNat lf) ak).2.1==AF.2.1) then
        kM false
       else
        S82 N AF.2.2 x (fun(sz:Bool)=>
         bif sz then
          kM false
         else
          next)
      else none)) (
    sA) mR 0:=by
 exact b5 (f:=fun n i=>vz N ae AF mR (List.length mR:Int) n sA kM i) (l:=mR) (fun n i h=>by
  simp only[vz]
  rw[decide_eq_true (show(i:Int)<(List.length mR:Int) by omega)]
  simp only[cond_true,an h,Int.toNat_natCast,ah _ i h]) (fun n=>by
  simp only[vz]
  rw[decide_eq_false (by omega)]
  simp only[cond_false]) hl mR 0 n rfl (by omega) hn
theorem adR {N:Nat} {vB:(List QT)} {jW:(List QJ)} {ky:(List br)} {jk:(List Int)} {mS:(List Int)} {tF:Option aa} {kN:Bool→Option aa} (hl:(List.length mS)≤maxLen) {n:Nat} (hn:(List.length mS)<n):vA N vB jW ky jk mS (List.length mS:Int) n tF kN (0:Int)=
  k9 (fun(i:Nat) (x:Int) (next:Option aa)=>
    S80 N jW x (fun(vC:Int)=>
     bif (decide (vC<(0:Int))) then
      kN false
     else
      bif (decide ((0:Int)≤(0:Int))&&decide ((0:Int)≤(i:Int))&&decide ((i:Int)≤(List.length jk:Int))) then
       S82 N (List.drop (Int.toNat (0:Int)) (List.take (Int.toNat (i:Int)) jk)) x (fun(Sf:Bool)=>
        bif Sf then
         kN false
        else
         bif (aO vC (List.length jW)) then
          bif (aO (i:Int) (List.length ky)) then
           I83 N vB (List.getD jW (Int.toNat vC) ck) (List.getD ky (Int.toNat (i:Int)) cO) (fun(Sg:Bool)=>
            bif (!Sg) then
             kN false
            else
             next)
          else none
         else none)
      else none)) (
    tF) mS 0:=by
 exact b5 (f:=fun n i=>vA N vB jW ky jk mS (List.length mS:Int) n tF kN i) (l:=mS) (fun n i h=>by
  simp only[vA]
  rw[decide_eq_true (show(i:Int)<(List.length mS:Int) by omega)]
  simp only[cond_true,an h,Int.toNat_natCast,ah _ i h]) (fun n=>by
  simp only[vA]
  rw[decide_eq_false (by omega)]
  simp only[cond_false]) hl mS 0 n rfl (by omega) hn
theorem ZK {ld:(List QT)} {AG:Int→Option aa} {aC:Int} (hl:(List.length ld)≤maxLen) {n:Nat} (hn:(List.length ld)<n):qf ld (List.length ld:Int) n AG aC (0:Int)=
  ca (fun(i:Nat) (x:QT) (aC:Int) (next:Int→Option aa)=>
    next (IntKind.wrap .i64 (aC+x.2.2.1))) (fun(aC:Int)=>
    AG aC) ld 0 aC:=by
 exact cL (f:=fun n aC i=>qf ld (List.length ld:Int) n AG aC i) (l:=ld) (fun n i aC h=>by
  simp only[qf]
  rw[decide_eq_true (show(i:Int)<(List.length ld:Int) by omega)]
  simp only[cond_true,an h,Int.toNat_natCast,ah _ i h]) (fun n aC=>by
  simp only[qf]
  rw[decide_eq_false (by omega)]
  simp only[cond_false]) hl ld 0 n aC rfl (by omega) hn
theorem adS {N:Nat} {iR:QC} {jJ:(List QB)} {qg:Option aa} {lV:Bool→Option aa} (hl:(List.length jJ)≤maxLen) {n:Nat} (hn:(List.length jJ)<n):sB N iR jJ (List.length jJ:Int) n qg lV (0:Int)=
  k9 (fun(i:Nat) (x:QB) (next:Option aa)=>
    bif (!((decide ((x.1:Int)=(0:Int)))&&((decide ((x.2.1:Int)=(0:Int)))&&(decide ((x.2.2:Int)=(0:Int)))))) then
     NN N x (fun(Si:Bool)=>
      bif (!Si) then
       lV false
      else
       bif (aO (i:Int) (List.length iR.2.2.2.1)) then
        bif (x.1 != (List.getD iR.2.2.2.1 (Int.toNat (i:Int)) (0:Int))) then
         lV false
        else
         next
       else none)
    else
     next) (
    qg) jJ 0:=by
 exact b5 (f:=fun n i=>sB N iR jJ (List.length jJ:Int) n qg lV i) (l:=jJ) (fun n i h=>by
  simp only[sB]
  rw[decide_eq_true (show(i:Int)<(List.length jJ:Int) by omega)]
  simp only[cond_true,an h,Int.toNat_natCast,ah _ i h]) (fun n=>by
  simp only[sB]
  rw[decide_eq_false (by omega)]
  simp only[cond_false]) hl jJ 0 n rfl (by omega) hn
theorem adT {Zi:Int} {aiF:Int} {aiG:QC} {aiH:QC} {xG:QC} {nD:Int→Option aa} (hl:(List.length xG.1)≤maxLen) {n:Nat} (hn:(List.length xG.1)<n):sC Zi aiF aiG aiH xG n nD (0:Int)=
  k9 (fun(i:Nat) (x:_) (next:Option aa)=>
    bif (decide (x.1<Zi)) then
     next
    else
     nD (i:Int)) (
    nD (List.length xG.1:Int)) xG.1 0:=by
 exact b5 (f:=fun n i=>sC Zi aiF aiG aiH xG n nD i) (l:=xG.1) (fun n i h=>by
  simp only[sC]
  rw[decide_eq_true (show(i:Int)<(List.length xG.1:Int) by omega)]
  simp only[cond_true,an h,Int.toNat_natCast,ah _ i h]) (fun n=>by
  simp only[sC]
  rw[decide_eq_false (by omega)]
  simp only[cond_false]) hl xG.1 0 n rfl (by omega) hn
theorem ZL {N:Nat} {ae:(List QJ)} {aw:Int} {fh:Option aa} {fi:Int→Option aa} (hl:(List.length ae)≤maxLen) {n:Nat} (hn:(List.length ae)<n):qh N ae aw (List.length ae:Int) n fh fi (0:Int)=
  k9 (fun(i:Nat) (x:QJ) (next:Option aa)=>
    aiI N x aw (fun(mP:Bool)=>
     bif mP then
      fi (i:Int)
     else
      next)) (
    fh) ae 0:=by
 exact b5 (f:=fun n i=>qh N ae aw (List.length ae:Int) n fh fi i) (l:=ae) (fun n i h=>by
  simp only[qh]
  rw[decide_eq_true (show(i:Int)<(List.length ae:Int) by omega)]
  simp only[cond_true,an h,Int.toNat_natCast,ah _ i h]) (fun n=>by
  simp only[qh]
  rw[decide_eq_false (by omega)]
  simp only[cond_false]) hl ae 0 n rfl (by omega) hn
theorem adU {jW:Int} {ky:Int} {jk:QC} {aiK:QC} {xH:QC} {e7:Int→Option aa} (hl:(List.length xH.2.1)≤maxLen) {n:Nat} (hn:(List.length xH.2.1)<n):sD jW ky jk aiK xH n e7 (0:Int)=
  k9 (fun(i:Nat) (x:_) (next:Option aa)=>
    bif (decide (x.1<jW)) then
     next
    else
     e7 (i:Int)) (
    e7 (List.length xH.2.1:Int)) xH.2.1 0:=by
 exact b5 (f:=fun n i=>sD jW ky jk aiK xH n e7 i) (l:=xH.2.1) (fun n i h=>by
  simp only[sD]
  rw[decide_eq_true (show(i:Int)<(List.length xH.2.1:Int) by omega)]
  simp only[cond_true,an h,Int.toNat_natCast,ah _ i h]) (fun n=>by
  simp only[sD]
  rw[decide_eq_false (by omega)]
  simp only[cond_false]) hl xH.2.1 0 n rfl (by omega) hn
theorem ZM {bu:Int} {jh:(List Int)} {eA:Option aa} {AH:Int→Option aa} (hl:(List.length jh)≤maxLen) {n:Nat} (hn:(List.length jh)<n):qi bu jh (List.length jh:Int) n eA AH (0:Int)=
  k9 (fun(i:Nat) (x:Int) (next:Option aa)=>
    bif (x != bu) then
     AH x
    else
     next) (
    eA) jh 0:=by
 exact b5 (f:=fun n i=>qi bu jh (List.length jh:Int) n eA AH i) (l:=jh) (fun n i h=>by
  simp only[qi]
  rw[decide_eq_true (show(i:Int)<(List.length jh:Int) by omega)]
  simp only[cond_true,an h,Int.toNat_natCast,ah _ i h]) (fun n=>by
  simp only[qi]
  rw[decide_eq_false (by omega)]
  simp only[cond_false]) hl jh 0 n rfl (by omega) hn
theorem ZN {iq:(List QT)} {AI:(List Int)→Option aa} {cy:(List Int)} (hl:(List.length iq)≤maxLen) {n:Nat} (hn:(List.length iq)<n):qk iq (List.length iq:Int) n AI cy (0:Int)=
  ca (fun(i:Nat) (x:QT) (cy:(List Int)) (next:(List Int)→Option aa)=>
    bif (decide ((List.length cy+List.length [x.1])*1≤4398046511104)) then
     next (cy++[x.1])
    else none) (fun(cy:(List Int))=>
    AI cy) iq 0 cy:=by
 exact cL (f:=fun n cy i=>qk iq (List.length iq:Int) n AI cy i) (l:=iq) (fun n i cy h=>by
  simp only[qk]
  rw[decide_eq_true (show(i:Int)<(List.length iq:Int) by omega)]
  simp only[cond_true,an h,Int.toNat_natCast,ah _ i h]) (fun n cy=>by
  simp only[qk]
  rw[decide_eq_false (by omega)]
  simp only[cond_false]) hl iq 0 n cy rfl (by omega) hn
theorem SL {iS:(List (List Int))} {oW:(List Int)→Option aa} {lO:(List Int)} (hl:(List.length iS)≤maxLen) {n:Nat} (hn:(List.length iS)<n):lg iS (List.length iS:Int) n oW lO (0:Int)=
  ca (fun(i:Nat) (x:(List Int)) (lO:(List Int)) (next:(List Int)→Option aa)=>
    bif (decide ((List.length lO+List.length x)*1≤4398046511104)) then
     next (lO++x)
    else none) (fun(lO:(List Int))=>
    oW lO) iS 0 lO:=by
 exact cL (f:=fun n lO i=>lg iS (List.length iS:Int) n oW lO i) (l:=iS) (fun n i lO h=>by
  simp only[lg]
  rw[decide_eq_true (show(i:Int)<(List.length iS:Int) by omega)]
  simp only[cond_true,an h,Int.toNat_natCast,ah _ i h]) (fun n lO=>by
  simp only[lg]
  rw[decide_eq_false (by omega)]
  simp only[cond_false]) hl iS 0 n lO rfl (by omega) hn
theorem ZO {ae:(List (List Int))} {mU:(List (List Int))} {bB:Int→Option aa} {aC:Int} (hl:(List.length mU)≤maxLen) {n:Nat} (hn:(List.length mU)<n):qm ae mU (List.length mU:Int) n bB aC (0:Int)=
  ca (fun(i:Nat) (x:(List Int)) (aC:Int) (next:Int→Option aa)=>
    bif (decide ((IntKind.wrap .i64 (aC+(List.length x:Int)))<(0:Int))) then
     none
    else
     next (IntKind.wrap .i64 (aC+(List.length x:Int)))) (fun(aC:Int)=>
    bB aC) mU 0 aC:=by
 exact cL (f:=fun n aC i=>qm ae mU (List.length mU:Int) n bB aC i) (l:=mU) (fun n i aC h=>by
  simp only[qm]
  rw[decide_eq_true (show(i:Int)<(List.length mU:Int) by omega)]
  simp only[cond_true,an h,Int.toNat_natCast,ah _ i h]) (fun n aC=>by
  simp only[qm]
  rw[decide_eq_false (by omega)]
  simp only[cond_false]) hl mU 0 n aC rfl (by omega) hn
theorem adV {gS:(List QB)} {bB:(List Int)→Option aa} {bu:(List Int)} (hl:(List.length gS)≤maxLen) {n:Nat} (hn:(List.length gS)<n):sF gS (List.length gS:Int) n bB bu (0:Int)=
  ca (fun(i:Nat) (x:QB) (bu:(List Int)) (next:(List Int)→Option aa)=>
    bif ((decide ((x.1:Int)=(0:Int)))&&((decide ((x.2.1:Int)=(0:Int)))&&(decide ((x.2.2:Int)=(0:Int))))) then
     bif (decide ((List.length bu+List.length [(i:Int)])*1≤4398046511104)) then
      next (bu++[(i:Int)])
     else none
    else
     next bu) (fun(bu:(List Int))=>
    bB bu) gS 0 bu:=by
 exact cL (f:=fun n bu i=>sF gS (List.length gS:Int) n bB bu i) (l:=gS) (fun n i bu h=>by
  simp only[sF]
  rw[decide_eq_true (show(i:Int)<(List.length gS:Int) by omega)]
  simp only[cond_true,an h,Int.toNat_natCast,ah _ i h]) (fun n bu=>by
  simp only[sF]
  rw[decide_eq_false (by omega)]
  simp only[cond_false]) hl gS 0 n bu rfl (by omega) hn
theorem ZP {N:Nat} {ae:(List QB)} {gS:(List QB)} {cT:Option aa} {dR:Bool→Option aa} (hl:(List.length gS)≤maxLen) {n:Nat} (hn:(List.length gS)<n):nG N ae gS (List.length gS:Int) n cT dR (0:Int)=
  k9 (fun(i:Nat) (x:QB) (next:Option aa)=>
    NN N x (fun(mP:Bool)=>
     bif (!mP) then
      dR false
     else
      bif (decide ((i:Int)>(0:Int))) then
       bif (aO (IntKind.wrap .i64 ((i:Int) - (1:Int))) (List.length ae)) then
        bif (decide (x.1≤(List.getD ae (Int.toNat (IntKind.wrap .i64 ((i:Int) - (1:Int)))) fg).1)) then
         dR false
        else
         next
       else none
      else
       next)) (
    cT) gS 0:=by
 exact b5 (f:=fun n i=>nG N ae gS (List.length gS:Int) n cT dR i) (l:=gS) (fun n i h=>by
  simp only[nG]
  rw[decide_eq_true (show(i:Int)<(List.length gS:Int) by omega)]
  simp only[cond_true,an h,Int.toNat_natCast,ah _ i h]) (fun n=>by
  simp only[nG]
  rw[decide_eq_false (by omega)]
  simp only[cond_false]) hl gS 0 n rfl (by omega) hn
theorem ZQ {N:Nat} {aw:Int} {bJ:(List QB)} {e7:Int→Option aa} {aK:Int} (hl:(List.length bJ)≤maxLen) {n:Nat} (hn:(List.length bJ)<n):nH N aw bJ (List.length bJ:Int) n e7 aK (0:Int)=
  ca (fun(i:Nat) (x:QB) (aK:Int) (next:Int→Option aa)=>
    Zp N x (fun(E8:Int)=>
     bif (E8==aw) then
      next (IntKind.wrap .i64 (aK+(1:Int)))
     else
      next aK)) (fun(aK:Int)=>
    e7 aK) bJ 0 aK:=by
 exact cL (f:=fun n aK i=>nH N aw bJ (List.length bJ:Int) n e7 aK i) (l:=bJ) (fun n i aK h=>by
  simp only[nH]
  rw[decide_eq_true (show(i:Int)<(List.length bJ:Int) by omega)]
  simp only[cond_true,an h,Int.toNat_natCast,ah _ i h]) (fun n aK=>by
  simp only[nH]
  rw[decide_eq_false (by omega)]
  simp only[cond_false]) hl bJ 0 n aK rfl (by omega) hn
theorem AL {aw:Int} {bJ:(List QB)} {iQ:Int→Option aa} {aK:Int} (hl:(List.length bJ)≤maxLen) {n:Nat} (hn:(List.length bJ)<n):lW aw bJ (List.length bJ:Int) n iQ aK (0:Int)=
  ca (fun(i:Nat) (x:QB) (aK:Int) (next:Int→Option aa)=>
    bif (aw==(1:Int)) then
     next (IntKind.wrap .i64 (aK+x.2.1))
    else
     bif (aw==(2:Int)) then
      next (IntKind.wrap .i64 (aK+x.2.2))
     else
      next aK) (fun(aK:Int)=>
    iQ aK) bJ 0 aK:=by
 exact cL (f:=fun n aK i=>lW aw bJ (List.length bJ:Int) n iQ aK i) (l:=bJ) (fun n i aK h=>by
  simp only[lW]
  rw[decide_eq_true (show(i:Int)<(List.length bJ:Int) by omega)]
  simp only[cond_true,an h,Int.toNat_natCast,ah _ i h]) (fun n aK=>by
  simp only[lW]
  rw[decide_eq_false (by omega)]
  simp only[cond_false]) hl bJ 0 n aK rfl (by omega) hn
theorem adW {N:Nat} {iR:QC} {Zn:QC} {fM:(List br)} {tH:QC→Option aa} {tI:QC→Bool→Option aa} {ir:QC} (hl:(List.length fM)≤maxLen) {n:Nat} (hn:(List.length fM)<n):vE N iR Zn fM (List.length fM:Int) n tH tI ir (0:Int)=
  ca (fun(i:Nat) (x:br) (ir:QC) (next:QC→Option aa)=>
    bif (aO (i:Int) (List.length iR.2.2.2.2.1)) then
     Zq N [(List.getD iR.2.2.2.2.1 (Int.toNat (i:Int)) fg)] (fun(Fb:Int)=>
      Zr N ir.1 x.1 x.2 Fb (List.getD iR.2.2.2.2.1 (Int.toNat (i:Int)) fg).2.1 (List.getD iR.2.2.2.2.1 (Int.toNat (i:Int)) fg).2.2 (fun(Fe:(List QT)) (Ff:Bool)=>
       bif (!Ff) then
        H4 N iR (fun(Fg:QC)=>
         tI Fg false)
       else
        bif (aO (i:Int) (List.length iR.2.2.2.1)) then
         Sj N ir.2.1 (List.getD iR.2.2.2.1 (Int.toNat (i:Int)) (0:Int)) (fun(cU:Int)=>
          bif (aO cU (List.length ir.2.1)) then
           bif (decide ((List.length (List.getD ir.2.1 (Int.toNat cU) ck).2.2+List.length [x.1,x.2])*1≤4398046511104)) then
            Zs N ((List.getD ir.2.1 (Int.toNat cU) ck).2.2++[x.1,x.2]) (fun(Fh:(List Int))=>
             adm N Fh (fun(Fi:(List Int))=>
              bif (aO cU (List.length ir.2.1)) then
               bif (Nat.beq (Int.toNat cU) (Int.toNat cU)) then
                next (Fe,((List.set ir.2.1 (Int.toNat cU) ((List.getD ir.2.1 (Int.toNat cU) ck).1,((List.getD ir.2.1 (Int.toNat cU) ck).2.1,Fi))),ir.2.2))
               else none
              else none))
           else none
          else none)
        else none))
    else none) (fun(ir:QC)=>
    tH ir) fM 0 ir:=by
 exact cL (f:=fun n ir i=>vE N iR Zn fM (List.length fM:Int) n tH tI ir i) (l:=fM) (fun n i ir h=>by
  simp only[vE]
  rw[decide_eq_true (show(i:Int)<(List.length fM:Int) by omega)]
  simp only[cond_true,an h,Int.toNat_natCast,ah _ i h]) (fun n ir=>by
  simp only[vE]
  rw[decide_eq_false (by omega)]
  simp only[cond_false]) hl fM 0 n ir rfl (by omega) hn
theorem adX {ae:(List QL)} {aw:(List QL)} {dh:Option aa} {dk:Bool→Option aa} (hl:(List.length ae)≤maxLen) {n:Nat} (hn:(List.length ae)<n):vF ae aw (List.length ae:Int) n dh dk (0:Int)=
  k9 (fun(i:Nat) (x:QL) (next:Option aa)=>
    bif (aO (i:Int) (List.length aw)) then
     bif (!((decide ((x.1:Int)=(List.getD aw (Int.toNat (i:Int)) xD).1))&&((decide ((x.2.1:Int)=(List.getD aw (Int.toNat (i:Int)) xD).2.1))&&((decide ((x.2.2.1:Int)=(List.getD aw (Int.toNat (i:Int)) xD).2.2.1))&&(decide ((x.2.2.2:Int)=(List.getD aw (Int.toNat (i:Int)) xD).2.2.2)))))) then
      dk false
     else
      next
    else none) (
    dh) ae 0:=by
 exact b5 (f:=fun n i=>vF ae aw (List.length ae:Int) n dh dk i) (l:=ae) (fun n i h=>by
  simp only[vF]
  rw[decide_eq_true (show(i:Int)<(List.length ae:Int) by omega)]
  simp only[cond_true,an h,Int.toNat_natCast,ah _ i h]) (fun n=>by
  simp only[vF]
  rw[decide_eq_false (by omega)]
  simp only[cond_false]) hl ae 0 n rfl (by omega) hn
theorem ZR {ae:(List QT)} {gG:(List QT)→Option aa} {aC:(List QT)} (hl:(List.length ae)≤maxLen) {n:Nat} (hn:(List.length ae)<n):qo ae n gG aC (0:Int)=
  ca (fun(i:Nat) (x:QT) (aC:(List QT)) (next:(List QT)→Option aa)=>
    bif (decide ((List.length ([]:(List Int))+List.length x.2.2.2.2.2)*1≤4398046511104)) then
     bif (decide ((List.length aC+List.length [(x.1,(x.2.1,(x.2.2.1,(x.2.2.2.1,(x.2.2.2.2.1,(([]:(List Int))++x.2.2.2.2.2))))))])*6≤4398046511104)) then
      next (aC++[(x.1,(x.2.1,(x.2.2.1,(x.2.2.2.1,(x.2.2.2.2.1,(([]:(List Int))++x.2.2.2.2.2))))))])
     else none
    else none) (fun(aC:(List QT))=>
    gG aC) ae 0 aC:=by
 exact cL (f:=fun n aC i=>qo ae n gG aC i) (l:=ae) (fun n i aC h=>by
  simp only[qo]
  rw[decide_eq_true (show(i:Int)<(List.length ae:Int) by omega)]
  simp only[cond_true,an h,Int.toNat_natCast,ah _ i h]) (fun n aC=>by
  simp only[qo]
  rw[decide_eq_false (by omega)]
  simp only[cond_false]) hl ae 0 n aC rfl (by omega) hn
theorem ZS {ae:(List QJ)} {gG:(List QJ)→Option aa} {aC:(List QJ)} (hl:(List.length ae)≤maxLen) {n:Nat} (hn:(List.length ae)<n):qp ae n gG aC (0:Int)=
  ca (fun(i:Nat) (x:QJ) (aC:(List QJ)) (next:(List QJ)→Option aa)=>
    bif (decide ((List.length ([]:(List Int))+List.length x.2.2)*1≤4398046511104)) then
     bif (decide ((List.length aC+List.length [(x.1,(x.2.1,(([]:(List Int))++x.2.2)))])*3≤4398046511104)) then
      next (aC++[(x.1,(x.2.1,(([]:(List Int))++x.2.2)))])
     else none
    else none) (fun(aC:(List QJ))=>
    gG aC) ae 0 aC:=by
 exact cL (f:=fun n aC i=>qp ae n gG aC i) (l:=ae) (fun n i aC h=>by
  simp only[qp]
  rw[decide_eq_true (show(i:Int)<(List.length ae:Int) by omega)]
  simp only[cond_true,an h,Int.toNat_natCast,ah _ i h]) (fun n aC=>by
  simp only[qp]
  rw[decide_eq_false (by omega)]
  simp only[cond_false]) hl ae 0 n aC rfl (by omega) hn
theorem ZT {ae:(List QT)} {aw:Int} {bV:Option aa} {cM:Int→Option aa} (hl:(List.length ae)≤maxLen) {n:Nat} (hn:(List.length ae)<n):qq ae aw n bV cM (0:Int)=
  k9 (fun(i:Nat) (x:QT) (next:Option aa)=>
    bif (x.1==aw) then
     cM (i:Int)
    else
     next) (
    bV) ae 0:=by
 exact b5 (f:=fun n i=>qq ae aw n bV cM i) (l:=ae) (fun n i h=>by
  simp only[qq]
  rw[decide_eq_true (show(i:Int)<(List.length ae:Int) by omega)]
  simp only[cond_true,an h,Int.toNat_natCast,ah _ i h]) (fun n=>by
  simp only[qq]
  rw[decide_eq_false (by omega)]
  simp only[cond_false]) hl ae 0 n rfl (by omega) hn
theorem ZU {ae:(List Int)} {aw:Int} {bB:Int→Option aa} {aK:Int} (hl:(List.length ae)≤maxLen) {n:Nat} (hn:(List.length ae)<n):nI ae aw n bB aK (0:Int)=
  ca (fun(i:Nat) (x:Int) (aK:Int) (next:Int→Option aa)=>
    bif (x==aw) then
     next (IntKind.wrap .i64 (aK+(1:Int)))
    else
     next aK) (fun(aK:Int)=>
    bB aK) ae 0 aK:=by
 exact cL (f:=fun n aK i=>nI ae aw n bB aK i) (l:=ae) (fun n i aK h=>by
  simp only[nI]
  rw[decide_eq_true (show(i:Int)<(List.length ae:Int) by omega)]
  simp only[cond_true,an h,Int.toNat_natCast,ah _ i h]) (fun n aK=>by
  simp only[nI]
  rw[decide_eq_false (by omega)]
  simp only[cond_false]) hl ae 0 n aK rfl (by omega) hn
theorem ZV {N:Nat} {xI:(List QT)} {H6:Int} {fj:QT} {tJ:Option aa} {kO:Bool→Option aa} (hl:(List.length fj.2.2.2.2.2)≤maxLen) {n:Nat} (hn:(List.length fj.2.2.2.2.2)<n):jK N xI H6 fj n tJ kO (0:Int)=
  k9 (fun(i:Nat) (x:_) (next:Option aa)=>
    vG N xI x (fun(kC:Int)=>
     bif (decide (kC<(0:Int))) then
      kO false
     else
      bif (kC==H6) then
       kO false
      else
       bif (aO kC (List.length xI)) then
        bif (aO kC (List.length xI)) then
         Su N (List.getD xI (Int.toNat kC) ak).2.2.2.2.2 fj.1 (fun(Jy:Int)=>
          Su N fj.2.2.2.2.2 (List.getD xI (Int.toNat kC) ak).1 (fun(Jz:Int)=>
           bif (Jy != Jz) then
            kO false
           else
            next))
        else none
       else none)) (
    tJ) fj.2.2.2.2.2 0:=by
 exact b5 (f:=fun n i=>jK N xI H6 fj n tJ kO i) (l:=fj.2.2.2.2.2) (fun n i h=>by
  simp only[jK]
  rw[decide_eq_true (show(i:Int)<(List.length fj.2.2.2.2.2:Int) by omega)]
  simp only[cond_true,an h,Int.toNat_natCast,ah _ i h]) (fun n=>by
  simp only[jK]
  rw[decide_eq_false (by omega)]
  simp only[cond_false]) hl fj.2.2.2.2.2 0 n rfl (by omega) hn
theorem ZW {N:Nat} {ae:(List QT)} {qs:Option aa} {cW:Bool→Option aa} (hl:(List.length ae)≤maxLen) {n:Nat} (hn:(List.length ae)<n):nJ N ae n qs cW (0:Int)=
  k9 (fun(i:Nat) (x:QT) (next:Option aa)=>
    gT N x.1 (1:Int) (99:Int) (fun(E9:Bool)=>
     bif (!E9) then
      cW false
     else
      gT N x.2.1 (1:Int) (99:Int) (fun(Fl:Bool)=>
       bif (!Fl) then
        cW false
       else
        gT N x.2.2.1 (0:Int) (List.length x.2.2.2.2.2:Int) (fun(NQ:Bool)=>
         bif (!NQ) then
          cW false
         else
          gT N x.2.2.2.2.1 (0:Int) (List.length x.2.2.2.2.2:Int) (fun(adq:Bool)=>
           bif (!adq) then
            cW false
           else
            gT N x.2.2.2.1 (0:Int) (100000:Int) (fun(adr:Bool)=>
             bif (!adr) then
              cW false
             else
              bif (decide ((List.length x.2.2.2.2.2:Int)>(20:Int))) then
               cW false
              else
               bif (decide ((i:Int)>(0:Int))) then
                bif (aO (IntKind.wrap .i64 ((i:Int) - (1:Int))) (List.length ae)) then
                 bif (decide ((List.getD ae (Int.toNat (IntKind.wrap .i64 ((i:Int) - (1:Int)))) ak).1≥x.1)) then
                  cW false
                 else
                  jK N ae (i:Int) x N next cW (0:Int)
                else none
               else
                jK N ae (i:Int) x N next cW (0:Int))))))) (
    qs) ae 0:=by
 exact b5 (f:=fun n i=>nJ N ae n qs cW i) (l:=ae) (fun n i h=>by
  simp only[nJ]
  rw[decide_eq_true (show(i:Int)<(List.length ae:Int) by omega)]
  simp only[cond_true,an h,Int.toNat_natCast,ah _ i h]) (fun n=>by
  simp only[nJ]
  rw[decide_eq_false (by omega)]
  simp only[cond_false]) hl ae 0 n rfl (by omega) hn
theorem Fx {nK:(List QT)} {oY:(List Int)→Option aa} {lP:(List Int)} (hl:(List.length nK)≤maxLen) {n:Nat} (hn:(List.length nK)<n):lh nK n oY lP (0:Int)=
  ca (fun(i:Nat) (x:QT) (lP:(List Int)) (next:(List Int)→Option aa)=>
    bif (decide ((List.length lP+List.length [x.1])*1≤4398046511104)) then
     next (lP++[x.1])
    else none) (fun(lP:(List Int))=>
    oY lP) nK 0 lP:=by
 exact cL (f:=fun n lP i=>lh nK n oY lP i) (l:=nK) (fun n i lP h=>by
  simp only[lh]
  rw[decide_eq_true (show(i:Int)<(List.length nK:Int) by omega)]
  simp only[cond_true,an h,Int.toNat_natCast,ah _ i h]) (fun n lP=>by
  simp only[lh]
  rw[decide_eq_false (by omega)]
  simp only[cond_false]) hl nK 0 n lP rfl (by omega) hn
theorem ZX {N:Nat} {ae:(List QT)} {nL:(List QT)→Option aa} {aC:(List QT)} (hl:(List.length ae)≤maxLen) {n:Nat} (hn:(List.length ae)<n):qu N ae n nL aC (0:Int)=
  ca (fun(i:Nat) (x:QT) (aC:(List QT)) (next:(List QT)→Option aa)=>
    uj N ae (fun(adt:Bool)=>
     bif adt then
      qt N ae aC (i:Int) N (fun(iu:Int)=>
       bif (decide ((0:Int)≤(0:Int))&&decide ((0:Int)≤iu)&&decide (iu≤(List.length aC:Int))) then
        bif (decide ((0:Int)≤iu)&&decide (iu≤(List.length aC:Int))&&decide ((List.length aC:Int)≤(List.length aC:Int))) then
         bif (decide ((List.length ([]:(List QT))+List.length (List.drop 0 (List.take (Int.toNat iu) aC)))*6≤4398046511104)) then
          bif (decide ((List.length (([]:(List QT))++(List.drop 0 (List.take (Int.toNat iu) aC)))+List.length [x])*6≤4398046511104)) then
           bif (decide ((List.length ((([]:(List QT))++(List.drop 0 (List.take (Int.toNat iu) aC)))++[x])+List.length (List.drop (Int.toNat iu) (List.take (Int.toNat (List.length aC:Int)) aC)))*6≤4398046511104)) then
            next (((([]:(List QT))++(List.drop 0 (List.take (Int.toNat iu) aC)))++[x])++(List.drop (Int.toNat iu) (List.take (Int.toNat (List.length aC:Int)) aC)))
           else none
          else none
         else none
        else none
       else none) (List.length aC:Int)
     else
      nL aC)) (fun(aC:(List QT))=>
    nL aC) ae 0 aC:=by
 exact cL (f:=fun n aC i=>qu N ae n nL aC i) (l:=ae) (fun n i aC h=>by
  simp only[qu]
  rw[decide_eq_true (show(i:Int)<(List.length ae:Int) by omega)]
  simp only[cond_true,an h,Int.toNat_natCast,ah _ i h]) (fun n aC=>by
  simp only[qu]
  rw[decide_eq_false (by omega)]
  simp only[cond_false]) hl ae 0 n aC rfl (by omega) hn
theorem ZY {ae:(List Int)} {aw:Int} {bV:Option aa} {cM:Bool→Option aa} (hl:(List.length ae)≤maxLen) {n:Nat} (hn:(List.length ae)<n):qv ae aw n bV cM (0:Int)=
  k9 (fun(i:Nat) (x:Int) (next:Option aa)=>
    bif (x==aw) then
     cM true
    else
     next) (
    bV) ae 0:=by
 exact b5 (f:=fun n i=>qv ae aw n bV cM i) (l:=ae) (fun n i h=>by
  simp only[qv]
  rw[decide_eq_true (show(i:Int)<(List.length ae:Int) by omega)]
  simp only[cond_true,an h,Int.toNat_natCast,ah _ i h]) (fun n=>by
  simp only[qv]
  rw[decide_eq_false (by omega)]
  simp only[cond_false]) hl ae 0 n rfl (by omega) hn
theorem ZZ {N:Nat} {er:(List QJ)} {ia:Int} {qx:Option aa} {lX:Bool→Option aa} (G2:(aO ia (List.length er))=true) (hl:(List.length (List.getD er (Int.toNat ia) ck).2.2)≤maxLen) {n:Nat} (hn:(List.length (List.getD er (Int.toNat ia) ck).2.2)<n):iE N er ia n qx lX (0:Int)=
  k9 (fun(i:Nat) (x:_) (next:Option aa)=>
    gT N x (1:Int) (99:Int) (fun(Sz:Bool)=>
     bif (!Sz) then
      lX false
     else
      bif (decide ((i:Int)>(0:Int))) then
       bif (aO (IntKind.wrap .i64 ((i:Int) - (1:Int))) (List.length (List.getD er (Int.toNat ia) ck).2.2)) then
        bif (decide ((List.getD (List.getD er (Int.toNat ia) ck).2.2 (Int.toNat (IntKind.wrap .i64 ((i:Int) - (1:Int)))) (0:Int))≥x)) then
         lX false
        else
         next
       else none
      else
       next)) (
    qx) ((List.getD er (Int.toNat ia) ck).2.2) 0:=by
 exact b5 (f:=fun n i=>iE N er ia n qx lX i) (l:=((List.getD er (Int.toNat ia) ck).2.2)) (fun n i h=>by
  simp only[iE,G2,cond_true]
  rw[decide_eq_true (show(i:Int)<(List.length ((List.getD er (Int.toNat ia) ck).2.2):Int) by omega)]
  simp only[cond_true,an h,Int.toNat_natCast,ah _ i h]) (fun n=>by
  simp only[iE,G2,cond_true]
  rw[decide_eq_false (by omega)]
  simp only[cond_false]) hl ((List.getD er (Int.toNat ia) ck).2.2) 0 n rfl (by omega) hn
theorem Z0 {N:Nat} {ae:(List QJ)} {qy:Option aa} {fN:Bool→Option aa} (hl:(List.length ae)≤maxLen) {n:Nat} (hn:(List.length ae)<n):nM N ae n qy fN (0:Int)=
  k9 (fun(i:Nat) (x:QJ) (next:Option aa)=>
    gT N x.1 (1:Int) (99:Int) (fun(NG:Bool)=>
     bif (!NG) then
      fN false
     else
      gT N x.2.1 (1:Int) (99:Int) (fun(Fl:Bool)=>
       bif (!Fl) then
        fN false
       else
        bif (decide ((i:Int)>(0:Int))) then
         bif (aO (IntKind.wrap .i64 ((i:Int) - (1:Int))) (List.length ae)) then
          bif (decide ((List.getD ae (Int.toNat (IntKind.wrap .i64 ((i:Int) - (1:Int)))) ck).1≥x.1)) then
           fN false
          else
           iE N ae (i:Int) N next fN (0:Int)
         else none
        else
         iE N ae (i:Int) N next fN (0:Int)))) (
    qy) ae 0:=by
 exact b5 (f:=fun n i=>nM N ae n qy fN i) (l:=ae) (fun n i h=>by
  simp only[nM]
  rw[decide_eq_true (show(i:Int)<(List.length ae:Int) by omega)]
  simp only[cond_true,an h,Int.toNat_natCast,ah _ i h]) (fun n=>by
  simp only[nM]
  rw[decide_eq_false (by omega)]
  simp only[cond_false]) hl ae 0 n rfl (by omega) hn
theorem Z1 {N:Nat} {ae:(List Int)} {eA:Int→Option aa} {aC:Int} (hl:(List.length ae)≤maxLen) {n:Nat} (hn:(List.length ae)<n):qz N ae n eA aC (0:Int)=
  ca (fun(i:Nat) (x:Int) (aC:Int) (next:Int→Option aa)=>
    adv N x (2147483647:Int) (fun(NF:Int)=>
     next (Int.tmod (IntKind.wrap .i64 ((IntKind.wrap .i64 ((IntKind.wrap .i64 (aC*(1000003:Int)))+NF))+(13:Int))) (2147483647:Int)))) (fun(aC:Int)=>
    eA aC) ae 0 aC:=by
 exact cL (f:=fun n aC i=>qz N ae n eA aC i) (l:=ae) (fun n i aC h=>by
  simp only[qz]
  rw[decide_eq_true (show(i:Int)<(List.length ae:Int) by omega)]
  simp only[cond_true,an h,Int.toNat_natCast,ah _ i h]) (fun n aC=>by
  simp only[qz]
  rw[decide_eq_false (by omega)]
  simp only[cond_false]) hl ae 0 n aC rfl (by omega) hn
theorem Z2 {N:Nat} {ae:(List QL)} {cq:Option aa} {fL:Bool→Option aa} {aC:Int} (hl:(List.length ae)≤maxLen) {n:Nat} (hn:(List.length ae)<n):qA N ae n cq fL aC (0:Int)=
  ca (fun(i:Nat) (x:QL) (aC:Int) (next:Int→Option aa)=>
    bif (decide ((List.length ae:Int)≤(200:Int))) then
     SC N aC x (fun(uF:Int)=>
      bif (x.1 != (IntKind.wrap .i64 ((i:Int)+(1:Int)))) then
       fL false
      else
       gT N x.2.1 (1:Int) (9:Int) (fun(Fm:Bool)=>
        bif (!Fm) then
         fL false
        else
         gT N x.2.2.1 (0:Int) (99:Int) (fun(NZ:Bool)=>
          bif (!NZ) then
           fL false
          else
           bif (x.2.2.2 != uF) then
            fL false
           else
            next uF)))
    else
     cq) (fun(aC:Int)=>
    cq) ae 0 aC:=by
 exact cL (f:=fun n aC i=>qA N ae n cq fL aC i) (l:=ae) (fun n i aC h=>by
  simp only[qA]
  rw[decide_eq_true (show(i:Int)<(List.length ae:Int) by omega)]
  simp only[cond_true,an h,Int.toNat_natCast,ah _ i h]) (fun n aC=>by
  simp only[qA]
  rw[decide_eq_false (by omega)]
  simp only[cond_false]) hl ae 0 n aC rfl (by omega) hn
theorem Z3 {N:Nat} {ae:(List QT)} {eA:Int→Option aa} {aC:Int} (hl:(List.length ae)≤maxLen) {n:Nat} (hn:(List.length ae)<n):qB N ae n eA aC (0:Int)=
  ca (fun(i:Nat) (x:QT) (aC:Int) (next:Int→Option aa)=>
    uj N ae (fun(adx:Bool)=>
     bif adx then
      next (IntKind.wrap .i64 (aC+x.2.2.1))
     else
      eA aC)) (fun(aC:Int)=>
    eA aC) ae 0 aC:=by
 exact cL (f:=fun n aC i=>qB N ae n eA aC i) (l:=ae) (fun n i aC h=>by
  simp only[qB]
  rw[decide_eq_true (show(i:Int)<(List.length ae:Int) by omega)]
  simp only[cond_true,an h,Int.toNat_natCast,ah _ i h]) (fun n aC=>by
  simp only[qB]
  rw[decide_eq_false (by omega)]
  simp only[cond_false]) hl ae 0 n aC rfl (by omega) hn
theorem Z4 {N:Nat} {ae:(List QT)} {aw:(List br)} {bE:(List Int)→Option aa} {kP:Bool→Option aa} {aK:(List Int)} (hl:(List.length aw)≤maxLen) {n:Nat} (hn:(List.length aw)<n):qC N ae aw n bE kP aK (0:Int)=
  ca (fun(i:Nat) (x:br) (aK:(List Int)) (next:(List Int)→Option aa)=>
    Sv N ae x.1 x.2 (fun(N0:Bool)=>
     bif (!N0) then
      kP false
     else
      vH N aK x.1 (fun(N1:Bool)=>
       bif N1 then
        kP false
       else
        vH N aK x.2 (fun(N3:Bool)=>
         bif N3 then
          kP false
         else
          bif (decide ((List.length aK+List.length [x.1,x.2])*1≤4398046511104)) then
           next (aK++[x.1,x.2])
          else none)))) (fun(aK:(List Int))=>
    bE aK) aw 0 aK:=by
 exact cL (f:=fun n aK i=>qC N ae aw n bE kP aK i) (l:=aw) (fun n i aK h=>by
  simp only[qC]
  rw[decide_eq_true (show(i:Int)<(List.length aw:Int) by omega)]
  simp only[cond_true,an h,Int.toNat_natCast,ah _ i h]) (fun n aK=>by
  simp only[qC]
  rw[decide_eq_false (by omega)]
  simp only[cond_false]) hl aw 0 n aK rfl (by omega) hn
theorem Z5 {ae:(List QJ)} {aw:Int} {bV:Option aa} {cM:Int→Option aa} (hl:(List.length ae)≤maxLen) {n:Nat} (hn:(List.length ae)<n):qD ae aw n bV cM (0:Int)=
  k9 (fun(i:Nat) (x:QJ) (next:Option aa)=>
    bif (x.1==aw) then
     cM (i:Int)
    else
     next) (
    bV) ae 0:=by
 exact b5 (f:=fun n i=>qD ae aw n bV cM i) (l:=ae) (fun n i h=>by
  simp only[qD]
  rw[decide_eq_true (show(i:Int)<(List.length ae:Int) by omega)]
  simp only[cond_true,an h,Int.toNat_natCast,ah _ i h]) (fun n=>by
  simp only[qD]
  rw[decide_eq_false (by omega)]
  simp only[cond_false]) hl ae 0 n rfl (by omega) hn
theorem Z6 {N:Nat} {vB:(List QT)} {jW:(List QJ)} {ky:(List br)} {jk:(List Int)} {jL:Option aa} {fO:Bool→Option aa} (hl:(List.length ky)≤maxLen) {n:Nat} (hn:(List.length ky)<n):qE N vB jW ky jk n jL fO (0:Int)=
  k9 (fun(i:Nat) (x:br) (next:Option aa)=>
    bif (aO (i:Int) (List.length jk)) then
     Fo N jW (List.getD jk (Int.toNat (i:Int)) (0:Int)) (fun(Fq:Int)=>
      bif (decide (Fq<(0:Int))) then
       fO false
      else
       bif (decide ((0:Int)≤(0:Int))&&decide ((0:Int)≤(i:Int))&&decide ((i:Int)≤(List.length jk:Int))) then
        bif (aO (i:Int) (List.length jk)) then
         vH N (List.drop (Int.toNat (0:Int)) (List.take (Int.toNat (i:Int)) jk)) (List.getD jk (Int.toNat (i:Int)) (0:Int)) (fun(ady:Bool)=>
          bif ady then
           fO false
          else
           bif (aO Fq (List.length jW)) then
            Zv N vB (List.getD jW (Int.toNat Fq) ck) x (fun(SD:Bool)=>
             bif (!SD) then
              fO false
             else
              next)
           else none)
        else none
       else none)
    else none) (
    jL) ky 0:=by
 exact b5 (f:=fun n i=>qE N vB jW ky jk n jL fO i) (l:=ky) (fun n i h=>by
  simp only[qE]
  rw[decide_eq_true (show(i:Int)<(List.length ky:Int) by omega)]
  simp only[cond_true,an h,Int.toNat_natCast,ah _ i h]) (fun n=>by
  simp only[qE]
  rw[decide_eq_false (by omega)]
  simp only[cond_false]) hl ky 0 n rfl (by omega) hn
theorem Z7 {N:Nat} {lY:QC} {Fs:QB} {qF:Option aa} {lZ:Bool→Option aa} (hl:(List.length lY.2.2.2.2.1)≤maxLen) {n:Nat} (hn:(List.length lY.2.2.2.2.1)<n):nO N lY Fs n qF lZ (0:Int)=
  k9 (fun(i:Nat) (x:_) (next:Option aa)=>
    bif (!((decide ((x.1:Int)=Fs.1))&&((decide ((x.2.1:Int)=Fs.2.1))&&(decide ((x.2.2:Int)=Fs.2.2))))) then
     N4 N x (fun(SE:Bool)=>
      bif (!SE) then
       lZ false
      else
       bif (aO (i:Int) (List.length lY.2.2.2.1)) then
        bif (x.1 != (List.getD lY.2.2.2.1 (Int.toNat (i:Int)) (0:Int))) then
         lZ false
        else
         next
       else none)
    else
     next) (
    qF) lY.2.2.2.2.1 0:=by
 exact b5 (f:=fun n i=>nO N lY Fs n qF lZ i) (l:=lY.2.2.2.2.1) (fun n i h=>by
  simp only[nO]
  rw[decide_eq_true (show(i:Int)<(List.length lY.2.2.2.2.1:Int) by omega)]
  simp only[cond_true,an h,Int.toNat_natCast,ah _ i h]) (fun n=>by
  simp only[nO]
  rw[decide_eq_false (by omega)]
  simp only[cond_false]) hl lY.2.2.2.2.1 0 n rfl (by omega) hn
theorem Z8 {ee:QC} {b6:QB} {cT:(List Int)→Option aa} {aC:(List Int)} (hl:(List.length ee.2.2.2.2.1)≤maxLen) {n:Nat} (hn:(List.length ee.2.2.2.2.1)<n):nP ee b6 n cT aC (0:Int)=
  ca (fun(i:Nat) (x:_) (aC:(List Int)) (next:(List Int)→Option aa)=>
    bif ((decide ((x.1:Int)=b6.1))&&((decide ((x.2.1:Int)=b6.2.1))&&(decide ((x.2.2:Int)=b6.2.2)))) then
     bif (decide ((List.length aC+List.length [(i:Int)])*1≤4398046511104)) then
      next (aC++[(i:Int)])
     else none
    else
     next aC) (fun(aC:(List Int))=>
    cT aC) ee.2.2.2.2.1 0 aC:=by
 exact cL (f:=fun n aC i=>nP ee b6 n cT aC i) (l:=ee.2.2.2.2.1) (fun n i aC h=>by
  simp only[nP]
  rw[decide_eq_true (show(i:Int)<(List.length ee.2.2.2.2.1:Int) by omega)]
  simp only[cond_true,an h,Int.toNat_natCast,ah _ i h]) (fun n aC=>by
  simp only[nP]
  rw[decide_eq_false (by omega)]
  simp only[cond_false]) hl ee.2.2.2.2.1 0 n aC rfl (by omega) hn
theorem Z9 {N:Nat} {ae:(List QB)} {bV:Option aa} {cM:Bool→Option aa} (hl:(List.length ae)≤maxLen) {n:Nat} (hn:(List.length ae)<n):nQ N ae n bV cM (0:Int)=
  k9 (fun(i:Nat) (x:QB) (next:Option aa)=>
    N4 N x (fun(adA:Bool)=>
     bif (!adA) then
      cM false
     else
      bif (decide ((i:Int)>(0:Int))) then
       bif (aO (IntKind.wrap .i64 ((i:Int) - (1:Int))) (List.length ae)) then
        bif (decide ((List.getD ae (Int.toNat (IntKind.wrap .i64 ((i:Int) - (1:Int)))) fg).1≥x.1)) then
         cM false
        else
         next
       else none
      else
       next)) (
    bV) ae 0:=by
 exact b5 (f:=fun n i=>nQ N ae n bV cM i) (l:=ae) (fun n i h=>by
  simp only[nQ]
  rw[decide_eq_true (show(i:Int)<(List.length ae:Int) by omega)]
  simp only[cond_true,an h,Int.toNat_natCast,ah _ i h]) (fun n=>by
  simp only[nQ]
  rw[decide_eq_false (by omega)]
  simp only[cond_false]) hl ae 0 n rfl (by omega) hn
theorem Z' {N:Nat} {ae:(List QB)} {aw:Int} {bE:Int→Option aa} {aK:Int} (hl:(List.length ae)≤maxLen) {n:Nat} (hn:(List.length ae)<n):nR N ae aw n bE aK (0:Int)=
  ca (fun(i:Nat) (x:QB) (aK:Int) (next:Int→Option aa)=>
    SG N ae (fun(N5:Bool)=>
     bif N5 then
      Zx N x (fun(NC:Int)=>
       bif (NC==aw) then
        next (IntKind.wrap .i64 (aK+(1:Int)))
       else
        next aK)
     else
      bE aK)) (fun(aK:Int)=>
    bE aK) ae 0 aK:=by
 exact cL (f:=fun n aK i=>nR N ae aw n bE aK i) (l:=ae) (fun n i aK h=>by
  simp only[nR]
  rw[decide_eq_true (show(i:Int)<(List.length ae:Int) by omega)]
  simp only[cond_true,an h,Int.toNat_natCast,ah _ i h]) (fun n aK=>by
  simp only[nR]
  rw[decide_eq_false (by omega)]
  simp only[cond_false]) hl ae 0 n aK rfl (by omega) hn
theorem aaa {ae:(List Int)} {aw:Int} {bV:Int→Option aa} (hl:(List.length ae)≤maxLen) {n:Nat} (hn:(List.length ae)<n):qG ae aw n bV (0:Int)=
  k9 (fun(i:Nat) (x:Int) (next:Option aa)=>
    bif (decide (x<aw)) then
     next
    else
     bV (i:Int)) (
    bV (List.length ae:Int)) ae 0:=by
 exact b5 (f:=fun n i=>qG ae aw n bV i) (l:=ae) (fun n i h=>by
  simp only[qG]
  rw[decide_eq_true (show(i:Int)<(List.length ae:Int) by omega)]
  simp only[cond_true,an h,Int.toNat_natCast,ah _ i h]) (fun n=>by
  simp only[qG]
  rw[decide_eq_false (by omega)]
  simp only[cond_false]) hl ae 0 n rfl (by omega) hn
theorem adY {N:Nat} {fv:QC} {adD:QC} {qH:QC→Bool→Option aa} {ef:QC} {xK:Bool} (hl:(List.length fv.2.2.1)≤maxLen) {n:Nat} (hn:(List.length fv.2.2.1)<n):sH N fv adD n qH ef xK (0:Int)=
  Zd (fun(i:Nat) (x:_) (ef:QC) (xK:Bool) (next:QC→Bool→Option aa)=>
    bif (aO (i:Int) (List.length fv.2.2.2.2.1)) then
     Zy N [(List.getD fv.2.2.2.2.1 (Int.toNat (i:Int)) fg)] (fun(Ft:Int)=>
      Zz N ef.1 x.1 x.2 Ft (List.getD fv.2.2.2.2.1 (Int.toNat (i:Int)) fg).2.1 (List.getD fv.2.2.2.2.1 (Int.toNat (i:Int)) fg).2.2 (fun(sI:(List QT)) (p9:Bool)=>
       bif xK then
        bif (aO (i:Int) (List.length fv.2.2.2.1)) then
         Fo N ef.2.1 (List.getD fv.2.2.2.1 (Int.toNat (i:Int)) (0:Int)) (fun(fm:Int)=>
          bif (aO fm (List.length ef.2.1)) then
           vI N (List.getD ef.2.1 (Int.toNat fm) ck).2.2 x.1 (fun(Fu:(List Int))=>
            vI N Fu x.2 (fun(xL:(List Int))=>
             bif (aO fm (List.length ef.2.1)) then
              next (sI,((List.set ef.2.1 (Int.toNat fm) ((List.getD ef.2.1 (Int.toNat fm) ck).1,((List.getD ef.2.1 (Int.toNat fm) ck).2.1,xL))),ef.2.2)) p9
             else none))
          else none)
        else none
       else
        bif (aO (i:Int) (List.length fv.2.2.2.1)) then
         Fo N ef.2.1 (List.getD fv.2.2.2.1 (Int.toNat (i:Int)) (0:Int)) (fun(fo:Int)=>
          bif (aO fo (List.length ef.2.1)) then
           vI N (List.getD ef.2.1 (Int.toNat fo) ck).2.2 x.1 (fun(vD:(List Int))=>
            vI N vD x.2 (fun(xM:(List Int))=>
             bif (aO fo (List.length ef.2.1)) then
              next (sI,((List.set ef.2.1 (Int.toNat fo) ((List.getD ef.2.1 (Int.toNat fo) ck).1,((List.getD ef.2.1 (Int.toNat fo) ck).2.1,xM))),ef.2.2)) false
             else none))
          else none)
        else none))
    else none) (fun(ef:QC) (xK:Bool)=>
    qH ef xK) fv.2.2.1 0 ef xK:=by
 exact acU (f:=fun n ef xK i=>sH N fv adD n qH ef xK i) (l:=fv.2.2.1) (fun n i ef xK h=>by
  simp only[sH]
  rw[decide_eq_true (show(i:Int)<(List.length fv.2.2.1:Int) by omega)]
  simp only[cond_true,an h,Int.toNat_natCast,ah _ i h]) (fun n ef xK=>by
  simp only[sH]
  rw[decide_eq_false (by omega)]
  simp only[cond_false]) hl fv.2.2.1 0 n ef xK rfl (by omega) hn
theorem aab {aw:Int} {fu:Int} {cy:QC} {JD:QC} {JE:QC} {bE:Int→Option aa} (hl:(List.length cy.1)≤maxLen) {n:Nat} (hn:(List.length cy.1)<n):nS aw fu cy JD JE n bE (0:Int)=
  k9 (fun(i:Nat) (x:_) (next:Option aa)=>
    bif (decide (x.1<aw)) then
     next
    else
     bE (i:Int)) (
    bE (List.length cy.1:Int)) cy.1 0:=by
 exact b5 (f:=fun n i=>nS aw fu cy JD JE n bE i) (l:=cy.1) (fun n i h=>by
  simp only[nS]
  rw[decide_eq_true (show(i:Int)<(List.length cy.1:Int) by omega)]
  simp only[cond_true,an h,Int.toNat_natCast,ah _ i h]) (fun n=>by
  simp only[nS]
  rw[decide_eq_false (by omega)]
  simp only[cond_false]) hl cy.1 0 n rfl (by omega) hn
theorem aac {aw:Int} {fu:Int} {cy:QC} {JD:QC} {JE:QC} {bE:Int→Option aa} (hl:(List.length cy.2.1)≤maxLen) {n:Nat} (hn:(List.length cy.2.1)<n):nT aw fu cy JD JE n bE (0:Int)=
  k9 (fun(i:Nat) (x:_) (next:Option aa)=>
    bif (decide (x.1<aw)) then
     next
    else
     bE (i:Int)) (
    bE (List.length cy.2.1:Int)) cy.2.1 0:=by
 exact b5 (f:=fun n i=>nT aw fu cy JD JE n bE i) (l:=cy.2.1) (fun n i h=>by
  simp only[nT]
  rw[decide_eq_true (show(i:Int)<(List.length cy.2.1:Int) by omega)]
  simp only[cond_true,an h,Int.toNat_natCast,ah _ i h]) (fun n=>by
  simp only[nT]
  rw[decide_eq_false (by omega)]
  simp only[cond_false]) hl cy.2.1 0 n rfl (by omega) hn
theorem aad {ae:(List Int)} {aw:(List Int)} {dh:Option aa} {dk:Bool→Option aa} (hl:(List.length ae)≤maxLen) {n:Nat} (hn:(List.length ae)<n):qK ae aw (List.length ae:Int) n dh dk (0:Int)=
  k9 (fun(i:Nat) (x:Int) (next:Option aa)=>
    bif (aO (i:Int) (List.length aw)) then
     bif (x != (List.getD aw (Int.toNat (i:Int)) (0:Int))) then
      dk false
     else
      next
    else none) (
    dh) ae 0:=by
 exact b5 (f:=fun n i=>qK ae aw (List.length ae:Int) n dh dk i) (l:=ae) (fun n i h=>by
  simp only[qK]
  rw[decide_eq_true (show(i:Int)<(List.length ae:Int) by omega)]
  simp only[cond_true,an h,Int.toNat_natCast,ah _ i h]) (fun n=>by
  simp only[qK]
  rw[decide_eq_false (by omega)]
  simp only[cond_false]) hl ae 0 n rfl (by omega) hn
theorem aae {N:Nat} {ee:(List QT)} {eL:(List QT)} {cT:Option aa} {dR:Bool→Option aa} (hl:(List.length eL)≤maxLen) {n:Nat} (hn:(List.length eL)<n):qL N ee eL (List.length eL:Int) n cT dR (0:Int)=
  k9 (fun(i:Nat) (x:QT) (next:Option aa)=>
    bif (aO (i:Int) (List.length ee)) then
     ai' N x (List.getD ee (Int.toNat (i:Int)) ak) (fun(Fw:Bool)=>
      bif (!Fw) then
       dR false
      else
       next)
    else none) (
    cT) eL 0:=by
 exact b5 (f:=fun n i=>qL N ee eL (List.length eL:Int) n cT dR i) (l:=eL) (fun n i h=>by
  simp only[qL]
  rw[decide_eq_true (show(i:Int)<(List.length eL:Int) by omega)]
  simp only[cond_true,an h,Int.toNat_natCast,ah _ i h]) (fun n=>by
  simp only[qL]
  rw[decide_eq_false (by omega)]
  simp only[cond_false]) hl eL 0 n rfl (by omega) hn
theorem aaf {N:Nat} {ee:(List QJ)} {eL:(List QJ)} {cT:Option aa} {dR:Bool→Option aa} (hl:(List.length eL)≤maxLen) {n:Nat} (hn:(List.length eL)<n):qM N ee eL (List.length eL:Int) n cT dR (0:Int)=
  k9 (fun(i:Nat) (x:QJ) (next:Option aa)=>
    bif (aO (i:Int) (List.length ee)) then
     ajb N x (List.getD ee (Int.toNat (i:Int)) ck) (fun(Fw:Bool)=>
      bif (!Fw) then
       dR false
      else
       next)
    else none) (
    cT) eL 0:=by
 exact b5 (f:=fun n i=>qM N ee eL (List.length eL:Int) n cT dR i) (l:=eL) (fun n i h=>by
  simp only[qM]
  rw[decide_eq_true (show(i:Int)<(List.length eL:Int) by omega)]
  simp only[cond_true,an h,Int.toNat_natCast,ah _ i h]) (fun n=>by
  simp only[qM]
  rw[decide_eq_false (by omega)]
  simp only[cond_false]) hl eL 0 n rfl (by omega) hn
theorem aag {ae:(List br)} {aw:(List br)} {dh:Option aa} {dk:Bool→Option aa} (hl:(List.length ae)≤maxLen) {n:Nat} (hn:(List.length ae)<n):qN ae aw (List.length ae:Int) n dh dk (0:Int)=
  k9 (fun(i:Nat) (x:br) (next:Option aa)=>
    bif (aO (i:Int) (List.length aw)) then
     bif (!((decide ((x.1:Int)=(List.getD aw (Int.toNat (i:Int)) cO).1))&&(decide ((x.2:Int)=(List.getD aw (Int.toNat (i:Int)) cO).2)))) then
      dk false
     else
      next
    else none) (
    dh) ae 0:=by
 exact b5 (f:=fun n i=>qN ae aw (List.length ae:Int) n dh dk i) (l:=ae) (fun n i h=>by
  simp only[qN]
  rw[decide_eq_true (show(i:Int)<(List.length ae:Int) by omega)]
  simp only[cond_true,an h,Int.toNat_natCast,ah _ i h]) (fun n=>by
  simp only[qN]
  rw[decide_eq_false (by omega)]
  simp only[cond_false]) hl ae 0 n rfl (by omega) hn
theorem aah {ae:(List QB)} {aw:(List QB)} {dh:Option aa} {dk:Bool→Option aa} (hl:(List.length ae)≤maxLen) {n:Nat} (hn:(List.length ae)<n):qO ae aw (List.length ae:Int) n dh dk (0:Int)=
  k9 (fun(i:Nat) (x:QB) (next:Option aa)=>
    bif (aO (i:Int) (List.length aw)) then
     bif (!((decide ((x.1:Int)=(List.getD aw (Int.toNat (i:Int)) fg).1))&&((decide ((x.2.1:Int)=(List.getD aw (Int.toNat (i:Int)) fg).2.1))&&(decide ((x.2.2:Int)=(List.getD aw (Int.toNat (i:Int)) fg).2.2))))) then
      dk false
     else
      next
    else none) (
    dh) ae 0:=by
 exact b5 (f:=fun n i=>qO ae aw (List.length ae:Int) n dh dk i) (l:=ae) (fun n i h=>by
  simp only[qO]
  rw[decide_eq_true (show(i:Int)<(List.length ae:Int) by omega)]
  simp only[cond_true,an h,Int.toNat_natCast,ah _ i h]) (fun n=>by
  simp only[qO]
  rw[decide_eq_false (by omega)]
  simp only[cond_false]) hl ae 0 n rfl (by omega) hn
theorem adZ {N:Nat} {AF:QC} {bK:(List QL)} {tL:QC→Option aa} {aK:QC} (hl:(List.length bK)≤maxLen) {n:Nat} (hn:(List.length bK)<n):vK N AF bK (List.length bK:Int) n tL aK (0:Int)=
  ca (fun(i:Nat) (x:QL) (aK:QC) (next:QC→Option aa)=>
    I13 N aK x (fun(E8:QC) (awi:Bool)=>
     next E8)) (fun(aK:QC)=>
    tL aK) bK 0 aK:=by
 exact cL (f:=fun n aK i=>vK N AF bK (List.length bK:Int) n tL aK i) (l:=bK) (fun n i aK h=>by
  simp only[vK]
  rw[decide_eq_true (show(i:Int)<(List.length bK:Int) by omega)]
  simp only[cond_true,an h,Int.toNat_natCast,ah _ i h]) (fun n aK=>by
  simp only[vK]
  rw[decide_eq_false (by omega)]
  simp only[cond_false]) hl bK 0 n aK rfl (by omega) hn
theorem ad0 {aw:(List Int)} {bK:(List Int)} {bE:(List QL)→Option aa} {aK:(List QL)} (hl:(List.length bK)≤maxLen) {n:Nat} (hn:(List.length bK)<n):sK aw bK (List.length bK:Int) n bE aK (0:Int)=
  ca (fun(i:Nat) (x:Int) (aK:(List QL)) (next:(List QL)→Option aa)=>
    bif (decide ((IntKind.wrap .i64 ((IntKind.wrap .i64 ((2:Int)*(i:Int)))+(1:Int)))<(List.length aw:Int))) then
     bif (aO (IntKind.wrap .i64 ((2:Int)*(i:Int))) (List.length aw)) then
      bif (aO (IntKind.wrap .i64 ((IntKind.wrap .i64 ((2:Int)*(i:Int)))+(1:Int))) (List.length aw)) then
       bif (decide ((List.length aK+List.length [((4:Int),((List.getD aw (Int.toNat (IntKind.wrap .i64 ((2:Int)*(i:Int)))) (0:Int)),((List.getD aw (Int.toNat (IntKind.wrap .i64 ((IntKind.wrap .i64 ((2:Int)*(i:Int)))+(1:Int)))) (0:Int)),x)))])*4≤4398046511104)) then
        next (aK++[((4:Int),((List.getD aw (Int.toNat (IntKind.wrap .i64 ((2:Int)*(i:Int)))) (0:Int)),((List.getD aw (Int.toNat (IntKind.wrap .i64 ((IntKind.wrap .i64 ((2:Int)*(i:Int)))+(1:Int)))) (0:Int)),x)))])
       else none
      else none
     else none
    else
     next aK) (fun(aK:(List QL))=>
    bE aK) bK 0 aK:=by
 exact cL (f:=fun n aK i=>sK aw bK (List.length bK:Int) n bE aK i) (l:=bK) (fun n i aK h=>by
  simp only[sK]
  rw[decide_eq_true (show(i:Int)<(List.length bK:Int) by omega)]
  simp only[cond_true,an h,Int.toNat_natCast,ah _ i h]) (fun n aK=>by
  simp only[sK]
  rw[decide_eq_false (by omega)]
  simp only[cond_false]) hl bK 0 n aK rfl (by omega) hn
theorem ad1 {V8:(List Int)} {j8:QC} {o8:(List Int)→Option aa} {jM:(List Int)} (hl:(List.length j8.2.2.1)≤maxLen) {n:Nat} (hn:(List.length j8.2.2.1)<n):qP V8 j8 n o8 jM (0:Int)=
  ca (fun(i:Nat) (x:_) (jM:(List Int)) (next:(List Int)→Option aa)=>
    bif (decide ((List.length jM+List.length [(IntKind.wrap .i64 ((70:Int)+(i:Int))),(60:Int)])*1≤4398046511104)) then
     next (jM++[(IntKind.wrap .i64 ((70:Int)+(i:Int))),(60:Int)])
    else none) (fun(jM:(List Int))=>
    o8 jM) j8.2.2.1 0 jM:=by
 exact cL (f:=fun n jM i=>qP V8 j8 n o8 jM i) (l:=j8.2.2.1) (fun n i jM h=>by
  simp only[qP]
  rw[decide_eq_true (show(i:Int)<(List.length j8.2.2.1:Int) by omega)]
  simp only[cond_true,an h,Int.toNat_natCast,ah _ i h]) (fun n jM=>by
  simp only[qP]
  rw[decide_eq_false (by omega)]
  simp only[cond_false]) hl j8.2.2.1 0 n jM rfl (by omega) hn
end Go.Pv.R
