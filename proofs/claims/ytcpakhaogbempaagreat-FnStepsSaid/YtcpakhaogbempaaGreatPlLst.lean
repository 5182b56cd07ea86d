/- Their loops over lists, without rounds. -/
import Derived.Test.YtcpakhaogbempaaGreatPlRes
namespace Go.Pv.R
set_option linter.unusedVariables false
set_option linter.unusedSimpArgs false
theorem ZP {N:Nat} {fQ:(List QT)} {cr:(List QT)→Option ab} {cj:(List QT)} (hl:(List.length fQ)≤maxLen) {n:Nat} (hn:(List.length fQ)<n):qH N fQ (List.length fQ:Int) n cr cj (0:Int)=
  c6 (fun(i:Nat) (x:QT) (cj:(List QT)) (next:(List QT)→Option ab)=>
    JF N x.2.2.2.2.2 (fun(th:(List Int))=>
     bif (decide ((List.length cj+List.length [(x.1,(x.2.1,(x.2.2.1,(x.2.2.2.1,(x.2.2.2.2.1,th)))))])*6≤4398046511104)) then
      next (cj++[(x.1,(x.2.1,(x.2.2.1,(x.2.2.2.1,(x.2.2.2.2.1,th)))))])
     else none)) (fun(cj:(List QT))=>
    cr cj) fQ 0 cj:=by
 exact eh (f:=fun n cj i=>qH N fQ (List.length fQ:Int) n cr cj i) (l:=fQ) (fun n i cj h=>by
  simp only[qH]
  rw[decide_eq_true (show(i:Int)<(List.length fQ:Int) by omega)]
  simp only[cond_true,aG h,Int.toNat_natCast,ax _ i h]) (fun n cj=>by
  simp only[qH]
  rw[decide_eq_false (by omega)]
  simp only[cond_false]) hl fQ 0 n cj rfl (by omega) hn
theorem ZQ {N:Nat} {fQ:(List QJ)} {cr:(List QJ)→Option ab} {cj:(List QJ)} (hl:(List.length fQ)≤maxLen) {n:Nat} (hn:(List.length fQ)<n):qI N fQ (List.length fQ:Int) n cr cj (0:Int)=
  c6 (fun(i:Nat) (x:QJ) (cj:(List QJ)) (next:(List QJ)→Option ab)=>
    JF N x.2.2 (fun(th:(List Int))=>
     bif (decide ((List.length cj+List.length [(x.1,(x.2.1,th))])*3≤4398046511104)) then
      next (cj++[(x.1,(x.2.1,th))])
     else none)) (fun(cj:(List QJ))=>
    cr cj) fQ 0 cj:=by
 exact eh (f:=fun n cj i=>qI N fQ (List.length fQ:Int) n cr cj i) (l:=fQ) (fun n i cj h=>by
  simp only[qI]
  rw[decide_eq_true (show(i:Int)<(List.length fQ:Int) by omega)]
  simp only[cond_true,aG h,Int.toNat_natCast,ax _ i h]) (fun n cj=>by
  simp only[qI]
  rw[decide_eq_false (by omega)]
  simp only[cond_false]) hl fQ 0 n cj rfl (by omega) hn
theorem ZR {N:Nat} {af:(List QT)} {aM:Int} {gh:Option ab} {gk:Int→Option ab} (hl:(List.length af)≤maxLen) {n:Nat} (hn:(List.length af)<n):qJ N af aM (List.length af:Int) n gh gk (0:Int)=
  lX (fun(i:Nat) (x:QT) (next:Option ab)=>
    aix N x aM (fun(nB:Bool)=>
     bif nB then
      gk (i:Int)
     else
      next)) (
    gh) af 0:=by
 exact cK (f:=fun n i=>qJ N af aM (List.length af:Int) n gh gk i) (l:=af) (fun n i h=>by
  simp only[qJ]
  rw[decide_eq_true (show(i:Int)<(List.length af:Int) by omega)]
  simp only[cond_true,aG h,Int.toNat_natCast,ax _ i h]) (fun n=>by
  simp only[qJ]
  rw[decide_eq_false (by omega)]
  simp only[cond_false]) hl af 0 n rfl (by omega) hn
theorem ZS {N:Nat} {kd:(List Int)} {cr:Int→Option ab} {cj:Int} (hl:(List.length kd)≤maxLen) {n:Nat} (hn:(List.length kd)<n):qK N kd (List.length kd:Int) n cr cj (0:Int)=
  c6 (fun(i:Nat) (x:Int) (cj:Int) (next:Int→Option ab)=>
    aiA N cj x (fun(On:Int)=>
     next On)) (fun(cj:Int)=>
    cr cj) kd 0 cj:=by
 exact eh (f:=fun n cj i=>qK N kd (List.length kd:Int) n cr cj i) (l:=kd) (fun n i cj h=>by
  simp only[qK]
  rw[decide_eq_true (show(i:Int)<(List.length kd:Int) by omega)]
  simp only[cond_true,aG h,Int.toNat_natCast,ax _ i h]) (fun n cj=>by
  simp only[qK]
  rw[decide_eq_false (by omega)]
  simp only[cond_false]) hl kd 0 n cj rfl (by omega) hn
theorem ad7 {N:Nat} {qL:(List QL)} {jM:Option ab} {jC:Bool→Option ab} {cj:Int} (hl:(List.length qL)≤maxLen) {n:Nat} (hn:(List.length qL)<n):wk N qL (List.length qL:Int) n jM jC cj (0:Int)=
  c6 (fun(i:Nat) (x:QL) (cj:Int) (next:Int→Option ab)=>
    bif (x.1 != (IntKind.wrap .i64 ((i:Int)+(1:Int)))) then
     jC false
    else
     fR N x.2.1 (1:Int) (9:Int) (fun(yo:Bool)=>
      bif (!yo) then
       jC false
      else
       fR N x.2.2.1 (0:Int) (99:Int) (fun(Oo:Bool)=>
        bif (!Oo) then
         jC false
        else
         SI N cj x (fun(Oq:Int)=>
          bif (x.2.2.2 != Oq) then
           jC false
          else
           next x.2.2.2)))) (fun(cj:Int)=>
    jM) qL 0 cj:=by
 exact eh (f:=fun n cj i=>wk N qL (List.length qL:Int) n jM jC cj i) (l:=qL) (fun n i cj h=>by
  simp only[wk]
  rw[decide_eq_true (show(i:Int)<(List.length qL:Int) by omega)]
  simp only[cond_true,aG h,Int.toNat_natCast,ax _ i h]) (fun n cj=>by
  simp only[wk]
  rw[decide_eq_false (by omega)]
  simp only[cond_false]) hl qL 0 n cj rfl (by omega) hn
theorem ad8 {fV:Int} {o6:(List Int)} {dD:Int→Option ab} {iz:Int} (hl:(List.length o6)≤maxLen) {n:Nat} (hn:(List.length o6)<n):tp fV o6 (List.length o6:Int) n dD iz (0:Int)=
  c6 (fun(i:Nat) (x:Int) (iz:Int) (next:Int→Option ab)=>
    bif (x==fV) then
     next (IntKind.wrap .i64 (iz+(1:Int)))
    else
     next iz) (fun(iz:Int)=>
    dD iz) o6 0 iz:=by
 exact eh (f:=fun n iz i=>tp fV o6 (List.length o6:Int) n dD iz i) (l:=o6) (fun n i iz h=>by
  simp only[tp]
  rw[decide_eq_true (show(i:Int)<(List.length o6:Int) by omega)]
  simp only[cond_true,aG h,Int.toNat_natCast,ax _ i h]) (fun n iz=>by
  simp only[tp]
  rw[decide_eq_false (by omega)]
  simp only[cond_false]) hl o6 0 n iz rfl (by omega) hn
theorem Tq {N:Nat} {vt:(List QT)} {vu:QT} {JH:(List QT)} {JI:Int} {JJ:Int} {ja:(List Int)} {pL:Option ab} {jq:Bool→Option ab} (hl:(List.length ja)≤maxLen) {n:Nat} (hn:(List.length ja)<n):jo N vt vu JH JI JJ ja (List.length ja:Int) n pL jq (0:Int)=
  lX (fun(i:Nat) (x:Int) (next:Option ab)=>
    HN N vt x (fun(wm:Int)=>
     bif (decide (wm<(0:Int))) then
      jq false
     else
      bif (x==vu.1) then
       jq false
      else
       bif (bC wm (List.length vt)) then
        I78 N vu.2.2.2.2.2 x (fun(SJ:Int)=>
         I78 N (List.getD vt (Int.toNat wm) aC).2.2.2.2.2 vu.1 (fun(JK:Int)=>
          bif (SJ != JK) then
           jq false
          else
           next))
       else none)) (
    pL) ja 0:=by
 exact cK (f:=fun n i=>jo N vt vu JH JI JJ ja (List.length ja:Int) n pL jq i) (l:=ja) (fun n i h=>by
  simp only[jo]
  rw[decide_eq_true (show(i:Int)<(List.length ja:Int) by omega)]
  simp only[cond_true,aG h,Int.toNat_natCast,ax _ i h]) (fun n=>by
  simp only[jo]
  rw[decide_eq_false (by omega)]
  simp only[cond_false]) hl ja 0 n rfl (by omega) hn
theorem ZT {N:Nat} {af:(List QT)} {dq:(List QT)} {qM:Option ab} {cp:Bool→Option ab} (hl:(List.length dq)≤maxLen) {n:Nat} (hn:(List.length dq)<n):oc N af dq (List.length dq:Int) n qM cp (0:Int)=
  lX (fun(i:Nat) (x:QT) (next:Option ab)=>
    fR N x.1 (1:Int) (99:Int) (fun(yo:Bool)=>
     bif (!yo) then
      cp false
     else
      bif (decide ((i:Int)>(0:Int))) then
       bif (bC (IntKind.wrap .i64 ((i:Int) - (1:Int))) (List.length af)) then
        bif (decide (x.1≤(List.getD af (Int.toNat (IntKind.wrap .i64 ((i:Int) - (1:Int)))) aC).1)) then
         cp false
        else
         fR N x.2.1 (1:Int) (99:Int) (fun(adu:Bool)=>
          bif (!adu) then
           cp false
          else
           bif (decide ((List.length x.2.2.2.2.2:Int)>(20:Int))) then
            cp false
           else
            fR N x.2.2.1 (0:Int) (List.length x.2.2.2.2.2:Int) (fun(IB:Bool)=>
             bif (!IB) then
              cp false
             else
              fR N x.2.2.2.2.1 (0:Int) (List.length x.2.2.2.2.2:Int) (fun(adv:Bool)=>
               bif (!adv) then
                cp false
               else
                fR N x.2.2.2.1 (0:Int) (100000:Int) (fun(SK:Bool)=>
                 bif (!SK) then
                  cp false
                 else
                  jo N af x dq (List.length dq:Int) (i:Int) x.2.2.2.2.2 (List.length x.2.2.2.2.2:Int) N next cp (0:Int)))))
       else none
      else
       fR N x.2.1 (1:Int) (99:Int) (fun(SL:Bool)=>
        bif (!SL) then
         cp false
        else
         bif (decide ((List.length x.2.2.2.2.2:Int)>(20:Int))) then
          cp false
         else
          fR N x.2.2.1 (0:Int) (List.length x.2.2.2.2.2:Int) (fun(SM:Bool)=>
           bif (!SM) then
            cp false
           else
            fR N x.2.2.2.2.1 (0:Int) (List.length x.2.2.2.2.2:Int) (fun(qN:Bool)=>
             bif (!qN) then
              cp false
             else
              fR N x.2.2.2.1 (0:Int) (100000:Int) (fun(SN:Bool)=>
               bif (!SN) then
                cp false
               else
                jo N af x dq (List.length dq:Int) (i:Int) x.2.2.2.2.2 (List.length x.2.2.2.2.2:Int) N next cp (0:Int))))))) (
    qM) dq 0:=by
 exact cK (f:=fun n i=>oc N af dq (List.length dq:Int) n qM cp i) (l:=dq) (fun n i h=>by
  simp only[oc,DR]
  rw[decide_eq_true (show(i:Int)<(List.length dq:Int) by omega)]
  simp only[cond_true,aG h,Int.toNat_natCast,ax _ i h]) (fun n=>by
  simp only[oc,DR]
  rw[decide_eq_false (by omega)]
  simp only[cond_false]) hl dq 0 n rfl (by omega) hn
theorem ad9 {N:Nat} {Ot:(List QJ)} {gl:QJ} {Fy:(List QJ)} {Fz:Int} {FA:Int} {jc:(List Int)} {qO:Option ab} {mL:Bool→Option ab} (hl:(List.length jc)≤maxLen) {n:Nat} (hn:(List.length jc)<n):nC N Ot gl Fy Fz FA jc (List.length jc:Int) n qO mL (0:Int)=
  lX (fun(i:Nat) (x:Int) (next:Option ab)=>
    fR N x (1:Int) (99:Int) (fun(SP:Bool)=>
     bif (!SP) then
      mL false
     else
      bif (decide ((i:Int)>(0:Int))) then
       bif (bC (IntKind.wrap .i64 ((i:Int) - (1:Int))) (List.length gl.2.2)) then
        bif (decide (x≤(List.getD gl.2.2 (Int.toNat (IntKind.wrap .i64 ((i:Int) - (1:Int)))) (0:Int)))) then
         mL false
        else
         next
       else none
      else
       next)) (
    qO) jc 0:=by
 exact cK (f:=fun n i=>nC N Ot gl Fy Fz FA jc (List.length jc:Int) n qO mL i) (l:=jc) (fun n i h=>by
  simp only[nC]
  rw[decide_eq_true (show(i:Int)<(List.length jc:Int) by omega)]
  simp only[cond_true,aG h,Int.toNat_natCast,ax _ i h]) (fun n=>by
  simp only[nC]
  rw[decide_eq_false (by omega)]
  simp only[cond_false]) hl jc 0 n rfl (by omega) hn
theorem ad' {N:Nat} {af:(List QJ)} {fp:(List QJ)} {qQ:Option ab} {eM:Bool→Option ab} (hl:(List.length fp)≤maxLen) {n:Nat} (hn:(List.length fp)<n):tq N af fp (List.length fp:Int) n qQ eM (0:Int)=
  lX (fun(i:Nat) (x:QJ) (next:Option ab)=>
    fR N x.1 (1:Int) (99:Int) (fun(yq:Bool)=>
     bif (!yq) then
      eM false
     else
      bif (decide ((i:Int)>(0:Int))) then
       bif (bC (IntKind.wrap .i64 ((i:Int) - (1:Int))) (List.length af)) then
        bif (decide (x.1≤(List.getD af (Int.toNat (IntKind.wrap .i64 ((i:Int) - (1:Int)))) cY).1)) then
         eM false
        else
         fR N x.2.1 (1:Int) (99:Int) (fun(adw:Bool)=>
          bif (!adw) then
           eM false
          else
           nC N af x fp (List.length fp:Int) (i:Int) x.2.2 (List.length x.2.2:Int) N next eM (0:Int))
       else none
      else
       fR N x.2.1 (1:Int) (99:Int) (fun(tr:Bool)=>
        bif (!tr) then
         eM false
        else
         nC N af x fp (List.length fp:Int) (i:Int) x.2.2 (List.length x.2.2:Int) N next eM (0:Int)))) (
    qQ) fp 0:=by
 exact cK (f:=fun n i=>tq N af fp (List.length fp:Int) n qQ eM i) (l:=fp) (fun n i h=>by
  simp only[tq,JL]
  rw[decide_eq_true (show(i:Int)<(List.length fp:Int) by omega)]
  simp only[cond_true,aG h,Int.toNat_natCast,ax _ i h]) (fun n=>by
  simp only[tq,JL]
  rw[decide_eq_false (by omega)]
  simp only[cond_false]) hl fp 0 n rfl (by omega) hn
theorem IG {af:(List Int)} {aM:Int} {Bu:Option ab} {Bv:Int→Option ab} (hl:(List.length af)≤maxLen) {n:Nat} (hn:(List.length af)<n):qR af aM (List.length af:Int) n Bu Bv (0:Int)=
  lX (fun(i:Nat) (x:Int) (next:Option ab)=>
    bif (aM==x) then
     Bv (i:Int)
    else
     next) (
    Bu) af 0:=by
 exact cK (f:=fun n i=>qR af aM (List.length af:Int) n Bu Bv i) (l:=af) (fun n i h=>by
  simp only[qR]
  rw[decide_eq_true (show(i:Int)<(List.length af:Int) by omega)]
  simp only[cond_true,aG h,Int.toNat_natCast,ax _ i h]) (fun n=>by
  simp only[qR]
  rw[decide_eq_false (by omega)]
  simp only[cond_false]) hl af 0 n rfl (by omega) hn
theorem ZU {N:Nat} {IC:(List Int)} {kK:(List QT)} {pM:Option ab} {pN:Bool→Option ab} (hl:(List.length kK)≤maxLen) {n:Nat} (hn:(List.length kK)<n):qS N IC kK (List.length kK:Int) n pM pN (0:Int)=
  lX (fun(i:Nat) (x:QT) (next:Option ab)=>
    I78 N IC x.1 (fun(SR:Int)=>
     bif (SR != (1:Int)) then
      pN false
     else
      next)) (
    pM) kK 0:=by
 exact cK (f:=fun n i=>qS N IC kK (List.length kK:Int) n pM pN i) (l:=kK) (fun n i h=>by
  simp only[qS]
  rw[decide_eq_true (show(i:Int)<(List.length kK:Int) by omega)]
  simp only[cond_true,aG h,Int.toNat_natCast,ax _ i h]) (fun n=>by
  simp only[qS]
  rw[decide_eq_false (by omega)]
  simp only[cond_false]) hl kK 0 n rfl (by omega) hn
theorem aea {N:Nat} {af:(List QT)} {gm:(List cg)} {dD:(List Int)→Option ab} {gL:Bool→Option ab} {iz:(List Int)} (hl:(List.length gm)≤maxLen) {n:Nat} (hn:(List.length gm)<n):wo N af gm (List.length gm:Int) n dD gL iz (0:Int)=
  c6 (fun(i:Nat) (x:cg) (iz:(List Int)) (next:(List Int)→Option ab)=>
    I77 N af x.1 x.2 (fun(lZ:Bool)=>
     bif (!lZ) then
      gL false
     else
      bif (decide ((List.length iz+List.length [x.1,x.2])*1≤4398046511104)) then
       next (iz++[x.1,x.2])
      else none)) (fun(iz:(List Int))=>
    dD iz) gm 0 iz:=by
 exact eh (f:=fun n iz i=>wo N af gm (List.length gm:Int) n dD gL iz i) (l:=gm) (fun n i iz h=>by
  simp only[wo]
  rw[decide_eq_true (show(i:Int)<(List.length gm:Int) by omega)]
  simp only[cond_true,aG h,Int.toNat_natCast,ax _ i h]) (fun n iz=>by
  simp only[wo]
  rw[decide_eq_false (by omega)]
  simp only[cond_false]) hl gm 0 n iz rfl (by omega) hn
theorem aeb {N:Nat} {af:(List QJ)} {aM:Int} {gh:Option ab} {gk:Int→Option ab} (hl:(List.length af)≤maxLen) {n:Nat} (hn:(List.length af)<n):wq N af aM (List.length af:Int) n gh gk (0:Int)=
  lX (fun(i:Nat) (x:QJ) (next:Option ab)=>
    I81 N x aM (fun(nB:Bool)=>
     bif nB then
      gk (i:Int)
     else
      next)) (
    gh) af 0:=by
 exact cK (f:=fun n i=>wq N af aM (List.length af:Int) n gh gk i) (l:=af) (fun n i h=>by
  simp only[wq]
  rw[decide_eq_true (show(i:Int)<(List.length af:Int) by omega)]
  simp only[cond_true,aG h,Int.toNat_natCast,ax _ i h]) (fun n=>by
  simp only[wq]
  rw[decide_eq_false (by omega)]
  simp only[cond_false]) hl af 0 n rfl (by omega) hn
theorem aec {N:Nat} {af:(List QT)} {Ou:QJ} {nD:(List Int)} {tu:Option ab} {lJ:Bool→Option ab} (hl:(List.length nD)≤maxLen) {n:Nat} (hn:(List.length nD)<n):wu N af Ou nD (List.length nD:Int) n tu lJ (0:Int)=
  lX (fun(i:Nat) (x:Int) (next:Option ab)=>
    HN N af x (fun(lZ:Int)=>
     bif (decide (lZ<(0:Int))) then
      lJ false
     else
      bif (bC lZ (List.length af)) then
       bif ((List.getD af (Int.toNat lZ) aC).2.1==Ou.2.1) then
        lJ false
       else
        S82 N Ou.2.2 x (fun(tr:Bool)=>
         bif tr then
          lJ false
         else
          next)
      else none)) (
    tu) nD 0:=by
 exact cK (f:=fun n i=>wu N af Ou nD (List.length nD:Int) n tu lJ i) (l:=nD) (fun n i h=>by
  simp only[wu]
  rw[decide_eq_true (show(i:Int)<(List.length nD:Int) by omega)]
  simp only[cond_true,aG h,Int.toNat_natCast,ax _ i h]) (fun n=>by
  simp only[wu]
  rw[decide_eq_false (by omega)]
  simp only[cond_false]) hl nD 0 n rfl (by omega) hn
theorem aed {N:Nat} {wx:(List QT)} {kZ:(List QJ)} {lz:(List cg)} {ke:(List Int)} {nE:(List Int)} {uz:Option ab} {lK:Bool→Option ab} (hl:(List.length nE)≤maxLen) {n:Nat} (hn:(List.length nE)<n):wv N wx kZ lz ke nE (List.length nE:Int) n uz lK (0:Int)=
  lX (fun(i:Nat) (x:Int) (next:Option ab)=>
    S80 N kZ x (fun(wy:Int)=>
     bif (decide (wy<(0:Int))) then
      lK false
     else
      bif (decide ((0:Int)≤(0:Int))&&decide ((0:Int)≤(i:Int))&&decide ((i:Int)≤(List.length ke:Int))) then
       S82 N (List.drop (Int.toNat (0:Int)) (List.take (Int.toNat (i:Int)) ke)) x (fun(SS:Bool)=>
        bif SS then
         lK false
        else
         bif (bC wy (List.length kZ)) then
          bif (bC (i:Int) (List.length lz)) then
           I83 N wx (List.getD kZ (Int.toNat wy) cY) (List.getD lz (Int.toNat (i:Int)) dz) (fun(SU:Bool)=>
            bif (!SU) then
             lK false
            else
             next)
          else none
         else none)
      else none)) (
    uz) nE 0:=by
 exact cK (f:=fun n i=>wv N wx kZ lz ke nE (List.length nE:Int) n uz lK i) (l:=nE) (fun n i h=>by
  simp only[wv]
  rw[decide_eq_true (show(i:Int)<(List.length nE:Int) by omega)]
  simp only[cond_true,aG h,Int.toNat_natCast,ax _ i h]) (fun n=>by
  simp only[wv]
  rw[decide_eq_false (by omega)]
  simp only[cond_false]) hl nE 0 n rfl (by omega) hn
theorem ZV {lY:(List QT)} {Bw:Int→Option ab} {aR:Int} (hl:(List.length lY)≤maxLen) {n:Nat} (hn:(List.length lY)<n):qT lY (List.length lY:Int) n Bw aR (0:Int)=
  c6 (fun(i:Nat) (x:QT) (aR:Int) (next:Int→Option ab)=>
    next (IntKind.wrap .i64 (aR+x.2.2.1))) (fun(aR:Int)=>
    Bw aR) lY 0 aR:=by
 exact eh (f:=fun n aR i=>qT lY (List.length lY:Int) n Bw aR i) (l:=lY) (fun n i aR h=>by
  simp only[qT]
  rw[decide_eq_true (show(i:Int)<(List.length lY:Int) by omega)]
  simp only[cond_true,aG h,Int.toNat_natCast,ax _ i h]) (fun n aR=>by
  simp only[qT]
  rw[decide_eq_false (by omega)]
  simp only[cond_false]) hl lY 0 n aR rfl (by omega) hn
theorem aee {N:Nat} {jO:QC} {kL:(List QB)} {qU:Option ab} {mM:Bool→Option ab} (hl:(List.length kL)≤maxLen) {n:Nat} (hn:(List.length kL)<n):tx N jO kL (List.length kL:Int) n qU mM (0:Int)=
  lX (fun(i:Nat) (x:QB) (next:Option ab)=>
    bif (!((decide ((x.1:Int)=(0:Int)))&&((decide ((x.2.1:Int)=(0:Int)))&&(decide ((x.2.2:Int)=(0:Int)))))) then
     Ov N x (fun(SW:Bool)=>
      bif (!SW) then
       mM false
      else
       bif (bC (i:Int) (List.length jO.2.2.2.1)) then
        bif (x.1 != (List.getD jO.2.2.2.1 (Int.toNat (i:Int)) (0:Int))) then
         mM false
        else
         next
       else none)
    else
     next) (
    qU) kL 0:=by
 exact cK (f:=fun n i=>tx N jO kL (List.length kL:Int) n qU mM i) (l:=kL) (fun n i h=>by
  simp only[tx]
  rw[decide_eq_true (show(i:Int)<(List.length kL:Int) by omega)]
  simp only[cond_true,aG h,Int.toNat_natCast,ax _ i h]) (fun n=>by
  simp only[tx]
  rw[decide_eq_false (by omega)]
  simp only[cond_false]) hl kL 0 n rfl (by omega) hn
theorem aef {Zu:Int} {aiE:Int} {aiF:QC} {aiG:QC} {yr:QC} {od:Int→Option ab} (hl:(List.length yr.1)≤maxLen) {n:Nat} (hn:(List.length yr.1)<n):tz Zu aiE aiF aiG yr n od (0:Int)=
  lX (fun(i:Nat) (x:_) (next:Option ab)=>
    bif (decide (x.1<Zu)) then
     next
    else
     od (i:Int)) (
    od (List.length yr.1:Int)) yr.1 0:=by
 exact cK (f:=fun n i=>tz Zu aiE aiF aiG yr n od i) (l:=yr.1) (fun n i h=>by
  simp only[tz]
  rw[decide_eq_true (show(i:Int)<(List.length yr.1:Int) by omega)]
  simp only[cond_true,aG h,Int.toNat_natCast,ax _ i h]) (fun n=>by
  simp only[tz]
  rw[decide_eq_false (by omega)]
  simp only[cond_false]) hl yr.1 0 n rfl (by omega) hn
theorem ZW {N:Nat} {af:(List QJ)} {aM:Int} {gh:Option ab} {gk:Int→Option ab} (hl:(List.length af)≤maxLen) {n:Nat} (hn:(List.length af)<n):qV N af aM (List.length af:Int) n gh gk (0:Int)=
  lX (fun(i:Nat) (x:QJ) (next:Option ab)=>
    aiH N x aM (fun(nB:Bool)=>
     bif nB then
      gk (i:Int)
     else
      next)) (
    gh) af 0:=by
 exact cK (f:=fun n i=>qV N af aM (List.length af:Int) n gh gk i) (l:=af) (fun n i h=>by
  simp only[qV]
  rw[decide_eq_true (show(i:Int)<(List.length af:Int) by omega)]
  simp only[cond_true,aG h,Int.toNat_natCast,ax _ i h]) (fun n=>by
  simp only[qV]
  rw[decide_eq_false (by omega)]
  simp only[cond_false]) hl af 0 n rfl (by omega) hn
theorem aeg {kZ:Int} {lz:Int} {ke:QC} {aiJ:QC} {yt:QC} {fX:Int→Option ab} (hl:(List.length yt.2.1)≤maxLen) {n:Nat} (hn:(List.length yt.2.1)<n):tC kZ lz ke aiJ yt n fX (0:Int)=
  lX (fun(i:Nat) (x:_) (next:Option ab)=>
    bif (decide (x.1<kZ)) then
     next
    else
     fX (i:Int)) (
    fX (List.length yt.2.1:Int)) yt.2.1 0:=by
 exact cK (f:=fun n i=>tC kZ lz ke aiJ yt n fX i) (l:=yt.2.1) (fun n i h=>by
  simp only[tC]
  rw[decide_eq_true (show(i:Int)<(List.length yt.2.1:Int) by omega)]
  simp only[cond_true,aG h,Int.toNat_natCast,ax _ i h]) (fun n=>by
  simp only[tC]
  rw[decide_eq_false (by omega)]
  simp only[cond_false]) hl yt.2.1 0 n rfl (by omega) hn
theorem ZX {cj:Int} {kd:(List Int)} {fe:Option ab} {Bx:Int→Option ab} (hl:(List.length kd)≤maxLen) {n:Nat} (hn:(List.length kd)<n):qW cj kd (List.length kd:Int) n fe Bx (0:Int)=
  lX (fun(i:Nat) (x:Int) (next:Option ab)=>
    bif (x != cj) then
     Bx x
    else
     next) (
    fe) kd 0:=by
 exact cK (f:=fun n i=>qW cj kd (List.length kd:Int) n fe Bx i) (l:=kd) (fun n i h=>by
  simp only[qW]
  rw[decide_eq_true (show(i:Int)<(List.length kd:Int) by omega)]
  simp only[cond_true,aG h,Int.toNat_natCast,ax _ i h]) (fun n=>by
  simp only[qW]
  rw[decide_eq_false (by omega)]
  simp only[cond_false]) hl kd 0 n rfl (by omega) hn
theorem ZY {jr:(List QT)} {By:(List Int)→Option ab} {db:(List Int)} (hl:(List.length jr)≤maxLen) {n:Nat} (hn:(List.length jr)<n):qY jr (List.length jr:Int) n By db (0:Int)=
  c6 (fun(i:Nat) (x:QT) (db:(List Int)) (next:(List Int)→Option ab)=>
    bif (decide ((List.length db+List.length [x.1])*1≤4398046511104)) then
     next (db++[x.1])
    else none) (fun(db:(List Int))=>
    By db) jr 0 db:=by
 exact eh (f:=fun n db i=>qY jr (List.length jr:Int) n By db i) (l:=jr) (fun n i db h=>by
  simp only[qY]
  rw[decide_eq_true (show(i:Int)<(List.length jr:Int) by omega)]
  simp only[cond_true,aG h,Int.toNat_natCast,ax _ i h]) (fun n db=>by
  simp only[qY]
  rw[decide_eq_false (by omega)]
  simp only[cond_false]) hl jr 0 n db rfl (by omega) hn
theorem Tr {jP:(List (List Int))} {pP:(List Int)→Option ab} {mD:(List Int)} (hl:(List.length jP)≤maxLen) {n:Nat} (hn:(List.length jP)<n):l4 jP (List.length jP:Int) n pP mD (0:Int)=
  c6 (fun(i:Nat) (x:(List Int)) (mD:(List Int)) (next:(List Int)→Option ab)=>
    bif (decide ((List.length mD+List.length x)*1≤4398046511104)) then
     next (mD++x)
    else none) (fun(mD:(List Int))=>
    pP mD) jP 0 mD:=by
 exact eh (f:=fun n mD i=>l4 jP (List.length jP:Int) n pP mD i) (l:=jP) (fun n i mD h=>by
  simp only[l4]
  rw[decide_eq_true (show(i:Int)<(List.length jP:Int) by omega)]
  simp only[cond_true,aG h,Int.toNat_natCast,ax _ i h]) (fun n mD=>by
  simp only[l4]
  rw[decide_eq_false (by omega)]
  simp only[cond_false]) hl jP 0 n mD rfl (by omega) hn
theorem ZZ {af:(List (List Int))} {nG:(List (List Int))} {cr:Int→Option ab} {aR:Int} (hl:(List.length nG)≤maxLen) {n:Nat} (hn:(List.length nG)<n):qZ af nG (List.length nG:Int) n cr aR (0:Int)=
  c6 (fun(i:Nat) (x:(List Int)) (aR:Int) (next:Int→Option ab)=>
    bif (decide ((IntKind.wrap .i64 (aR+(List.length x:Int)))<(0:Int))) then
     none
    else
     next (IntKind.wrap .i64 (aR+(List.length x:Int)))) (fun(aR:Int)=>
    cr aR) nG 0 aR:=by
 exact eh (f:=fun n aR i=>qZ af nG (List.length nG:Int) n cr aR i) (l:=nG) (fun n i aR h=>by
  simp only[qZ]
  rw[decide_eq_true (show(i:Int)<(List.length nG:Int) by omega)]
  simp only[cond_true,aG h,Int.toNat_natCast,ax _ i h]) (fun n aR=>by
  simp only[qZ]
  rw[decide_eq_false (by omega)]
  simp only[cond_false]) hl nG 0 n aR rfl (by omega) hn
theorem aeh {iO:(List QB)} {cr:(List Int)→Option ab} {cj:(List Int)} (hl:(List.length iO)≤maxLen) {n:Nat} (hn:(List.length iO)<n):tE iO (List.length iO:Int) n cr cj (0:Int)=
  c6 (fun(i:Nat) (x:QB) (cj:(List Int)) (next:(List Int)→Option ab)=>
    bif ((decide ((x.1:Int)=(0:Int)))&&((decide ((x.2.1:Int)=(0:Int)))&&(decide ((x.2.2:Int)=(0:Int))))) then
     bif (decide ((List.length cj+List.length [(i:Int)])*1≤4398046511104)) then
      next (cj++[(i:Int)])
     else none
    else
     next cj) (fun(cj:(List Int))=>
    cr cj) iO 0 cj:=by
 exact eh (f:=fun n cj i=>tE iO (List.length iO:Int) n cr cj i) (l:=iO) (fun n i cj h=>by
  simp only[tE]
  rw[decide_eq_true (show(i:Int)<(List.length iO:Int) by omega)]
  simp only[cond_true,aG h,Int.toNat_natCast,ax _ i h]) (fun n cj=>by
  simp only[tE]
  rw[decide_eq_false (by omega)]
  simp only[cond_false]) hl iO 0 n cj rfl (by omega) hn
theorem Z0 {N:Nat} {af:(List QB)} {iO:(List QB)} {dE:Option ab} {eX:Bool→Option ab} (hl:(List.length iO)≤maxLen) {n:Nat} (hn:(List.length iO)<n):om N af iO (List.length iO:Int) n dE eX (0:Int)=
  lX (fun(i:Nat) (x:QB) (next:Option ab)=>
    Ov N x (fun(nB:Bool)=>
     bif (!nB) then
      eX false
     else
      bif (decide ((i:Int)>(0:Int))) then
       bif (bC (IntKind.wrap .i64 ((i:Int) - (1:Int))) (List.length af)) then
        bif (decide (x.1≤(List.getD af (Int.toNat (IntKind.wrap .i64 ((i:Int) - (1:Int)))) gU).1)) then
         eX false
        else
         next
       else none
      else
       next)) (
    dE) iO 0:=by
 exact cK (f:=fun n i=>om N af iO (List.length iO:Int) n dE eX i) (l:=iO) (fun n i h=>by
  simp only[om]
  rw[decide_eq_true (show(i:Int)<(List.length iO:Int) by omega)]
  simp only[cond_true,aG h,Int.toNat_natCast,ax _ i h]) (fun n=>by
  simp only[om]
  rw[decide_eq_false (by omega)]
  simp only[cond_false]) hl iO 0 n rfl (by omega) hn
theorem Z1 {N:Nat} {aM:Int} {cB:(List QB)} {fX:Int→Option ab} {bH:Int} (hl:(List.length cB)≤maxLen) {n:Nat} (hn:(List.length cB)<n):oo N aM cB (List.length cB:Int) n fX bH (0:Int)=
  c6 (fun(i:Nat) (x:QB) (bH:Int) (next:Int→Option ab)=>
    ZB N x (fun(adG:Int)=>
     bif (adG==aM) then
      next (IntKind.wrap .i64 (bH+(1:Int)))
     else
      next bH)) (fun(bH:Int)=>
    fX bH) cB 0 bH:=by
 exact eh (f:=fun n bH i=>oo N aM cB (List.length cB:Int) n fX bH i) (l:=cB) (fun n i bH h=>by
  simp only[oo]
  rw[decide_eq_true (show(i:Int)<(List.length cB:Int) by omega)]
  simp only[cond_true,aG h,Int.toNat_natCast,ax _ i h]) (fun n bH=>by
  simp only[oo]
  rw[decide_eq_false (by omega)]
  simp only[cond_false]) hl cB 0 n bH rfl (by omega) hn
theorem BA {aM:Int} {cB:(List QB)} {jM:Int→Option ab} {bH:Int} (hl:(List.length cB)≤maxLen) {n:Nat} (hn:(List.length cB)<n):mO aM cB (List.length cB:Int) n jM bH (0:Int)=
  c6 (fun(i:Nat) (x:QB) (bH:Int) (next:Int→Option ab)=>
    bif (aM==(1:Int)) then
     next (IntKind.wrap .i64 (bH+x.2.1))
    else
     bif (aM==(2:Int)) then
      next (IntKind.wrap .i64 (bH+x.2.2))
     else
      next bH) (fun(bH:Int)=>
    jM bH) cB 0 bH:=by
 exact eh (f:=fun n bH i=>mO aM cB (List.length cB:Int) n jM bH i) (l:=cB) (fun n i bH h=>by
  simp only[mO]
  rw[decide_eq_true (show(i:Int)<(List.length cB:Int) by omega)]
  simp only[cond_true,aG h,Int.toNat_natCast,ax _ i h]) (fun n bH=>by
  simp only[mO]
  rw[decide_eq_false (by omega)]
  simp only[cond_false]) hl cB 0 n bH rfl (by omega) hn
theorem aei {N:Nat} {jO:QC} {Zz:QC} {gM:(List cg)} {uB:QC→Option ab} {uC:QC→Bool→Option ab} {jt:QC} (hl:(List.length gM)≤maxLen) {n:Nat} (hn:(List.length gM)<n):wA N jO Zz gM (List.length gM:Int) n uB uC jt (0:Int)=
  c6 (fun(i:Nat) (x:cg) (jt:QC) (next:QC→Option ab)=>
    bif (bC (i:Int) (List.length jO.2.2.2.2.1)) then
     ZC N [(List.getD jO.2.2.2.2.1 (Int.toNat (i:Int)) gU)] (fun(FJ:Int)=>
      ZD N jt.1 x.1 x.2 FJ (List.getD jO.2.2.2.2.1 (Int.toNat (i:Int)) gU).2.1 (List.getD jO.2.2.2.2.1 (Int.toNat (i:Int)) gU).2.2 (fun(FK:(List QT)) (FL:Bool)=>
       bif (!FL) then
        JG N jO (fun(FM:QC)=>
         uC FM false)
       else
        bif (bC (i:Int) (List.length jO.2.2.2.1)) then
         SX N jt.2.1 (List.getD jO.2.2.2.1 (Int.toNat (i:Int)) (0:Int)) (fun(dF:Int)=>
          bif (bC dF (List.length jt.2.1)) then
           bif (decide ((List.length (List.getD jt.2.1 (Int.toNat dF) cY).2.2+List.length [x.1,x.2])*1≤4398046511104)) then
            ZE N ((List.getD jt.2.1 (Int.toNat dF) cY).2.2++[x.1,x.2]) (fun(FN:(List Int))=>
             adM N FN (fun(FP:(List Int))=>
              bif (bC dF (List.length jt.2.1)) then
               bif (Nat.beq (Int.toNat dF) (Int.toNat dF)) then
                next (FK,((List.set jt.2.1 (Int.toNat dF) ((List.getD jt.2.1 (Int.toNat dF) cY).1,((List.getD jt.2.1 (Int.toNat dF) cY).2.1,FP))),jt.2.2))
               else none
              else none))
           else none
          else none)
        else none))
    else none) (fun(jt:QC)=>
    uB jt) gM 0 jt:=by
 exact eh (f:=fun n jt i=>wA N jO Zz gM (List.length gM:Int) n uB uC jt i) (l:=gM) (fun n i jt h=>by
  simp only[wA]
  rw[decide_eq_true (show(i:Int)<(List.length gM:Int) by omega)]
  simp only[cond_true,aG h,Int.toNat_natCast,ax _ i h]) (fun n jt=>by
  simp only[wA]
  rw[decide_eq_false (by omega)]
  simp only[cond_false]) hl gM 0 n jt rfl (by omega) hn
theorem aej {af:(List QL)} {aM:(List QL)} {dX:Option ab} {dY:Bool→Option ab} (hl:(List.length af)≤maxLen) {n:Nat} (hn:(List.length af)<n):wB af aM (List.length af:Int) n dX dY (0:Int)=
  lX (fun(i:Nat) (x:QL) (next:Option ab)=>
    bif (bC (i:Int) (List.length aM)) then
     bif (!((decide ((x.1:Int)=(List.getD aM (Int.toNat (i:Int)) Bm).1))&&((decide ((x.2.1:Int)=(List.getD aM (Int.toNat (i:Int)) Bm).2.1))&&((decide ((x.2.2.1:Int)=(List.getD aM (Int.toNat (i:Int)) Bm).2.2.1))&&(decide ((x.2.2.2:Int)=(List.getD aM (Int.toNat (i:Int)) Bm).2.2.2)))))) then
      dY false
     else
      next
    else none) (
    dX) af 0:=by
 exact cK (f:=fun n i=>wB af aM (List.length af:Int) n dX dY i) (l:=af) (fun n i h=>by
  simp only[wB]
  rw[decide_eq_true (show(i:Int)<(List.length af:Int) by omega)]
  simp only[cond_true,aG h,Int.toNat_natCast,ax _ i h]) (fun n=>by
  simp only[wB]
  rw[decide_eq_false (by omega)]
  simp only[cond_false]) hl af 0 n rfl (by omega) hn
theorem Z2 {af:(List QT)} {iI:(List QT)→Option ab} {aR:(List QT)} (hl:(List.length af)≤maxLen) {n:Nat} (hn:(List.length af)<n):q8 af n iI aR (0:Int)=
  c6 (fun(i:Nat) (x:QT) (aR:(List QT)) (next:(List QT)→Option ab)=>
    bif (decide ((List.length ([]:(List Int))+List.length x.2.2.2.2.2)*1≤4398046511104)) then
     bif (decide ((List.length aR+List.length [(x.1,(x.2.1,(x.2.2.1,(x.2.2.2.1,(x.2.2.2.2.1,(([]:(List Int))++x.2.2.2.2.2))))))])*6≤4398046511104)) then
      next (aR++[(x.1,(x.2.1,(x.2.2.1,(x.2.2.2.1,(x.2.2.2.2.1,(([]:(List Int))++x.2.2.2.2.2))))))])
     else none
    else none) (fun(aR:(List QT))=>
    iI aR) af 0 aR:=by
 exact eh (f:=fun n aR i=>q8 af n iI aR i) (l:=af) (fun n i aR h=>by
  simp only[q8]
  rw[decide_eq_true (show(i:Int)<(List.length af:Int) by omega)]
  simp only[cond_true,aG h,Int.toNat_natCast,ax _ i h]) (fun n aR=>by
  simp only[q8]
  rw[decide_eq_false (by omega)]
  simp only[cond_false]) hl af 0 n aR rfl (by omega) hn
theorem Z3 {af:(List QJ)} {iI:(List QJ)→Option ab} {aR:(List QJ)} (hl:(List.length af)≤maxLen) {n:Nat} (hn:(List.length af)<n):q9 af n iI aR (0:Int)=
  c6 (fun(i:Nat) (x:QJ) (aR:(List QJ)) (next:(List QJ)→Option ab)=>
    bif (decide ((List.length ([]:(List Int))+List.length x.2.2)*1≤4398046511104)) then
     bif (decide ((List.length aR+List.length [(x.1,(x.2.1,(([]:(List Int))++x.2.2)))])*3≤4398046511104)) then
      next (aR++[(x.1,(x.2.1,(([]:(List Int))++x.2.2)))])
     else none
    else none) (fun(aR:(List QJ))=>
    iI aR) af 0 aR:=by
 exact eh (f:=fun n aR i=>q9 af n iI aR i) (l:=af) (fun n i aR h=>by
  simp only[q9]
  rw[decide_eq_true (show(i:Int)<(List.length af:Int) by omega)]
  simp only[cond_true,aG h,Int.toNat_natCast,ax _ i h]) (fun n aR=>by
  simp only[q9]
  rw[decide_eq_false (by omega)]
  simp only[cond_false]) hl af 0 n aR rfl (by omega) hn
theorem Z4 {af:(List QT)} {aM:Int} {cI:Option ab} {dx:Int→Option ab} (hl:(List.length af)≤maxLen) {n:Nat} (hn:(List.length af)<n):ra af aM n cI dx (0:Int)=
  lX (fun(i:Nat) (x:QT) (next:Option ab)=>
    bif (x.1==aM) then
     dx (i:Int)
    else
     next) (
    cI) af 0:=by
 exact cK (f:=fun n i=>ra af aM n cI dx i) (l:=af) (fun n i h=>by
  simp only[ra]
  rw[decide_eq_true (show(i:Int)<(List.length af:Int) by omega)]
  simp only[cond_true,aG h,Int.toNat_natCast,ax _ i h]) (fun n=>by
  simp only[ra]
  rw[decide_eq_false (by omega)]
  simp only[cond_false]) hl af 0 n rfl (by omega) hn
theorem Z5 {af:(List Int)} {aM:Int} {cr:Int→Option ab} {bH:Int} (hl:(List.length af)≤maxLen) {n:Nat} (hn:(List.length af)<n):oq af aM n cr bH (0:Int)=
  c6 (fun(i:Nat) (x:Int) (bH:Int) (next:Int→Option ab)=>
    bif (x==aM) then
     next (IntKind.wrap .i64 (bH+(1:Int)))
    else
     next bH) (fun(bH:Int)=>
    cr bH) af 0 bH:=by
 exact eh (f:=fun n bH i=>oq af aM n cr bH i) (l:=af) (fun n i bH h=>by
  simp only[oq]
  rw[decide_eq_true (show(i:Int)<(List.length af:Int) by omega)]
  simp only[cond_true,aG h,Int.toNat_natCast,ax _ i h]) (fun n bH=>by
  simp only[oq]
  rw[decide_eq_false (by omega)]
  simp only[cond_false]) hl af 0 n bH rfl (by omega) hn
theorem Z6 {N:Nat} {yu:(List QT)} {ID:Int} {gl:QT} {uD:Option ab} {lL:Bool→Option ab} (hl:(List.length gl.2.2.2.2.2)≤maxLen) {n:Nat} (hn:(List.length gl.2.2.2.2.2)<n):kM N yu ID gl n uD lL (0:Int)=
  lX (fun(i:Nat) (x:_) (next:Option ab)=>
    wC N yu x (fun(lA:Int)=>
     bif (decide (lA<(0:Int))) then
      lL false
     else
      bif (lA==ID) then
       lL false
      else
       bif (bC lA (List.length yu)) then
        bif (bC lA (List.length yu)) then
         S8 N (List.getD yu (Int.toNat lA) aC).2.2.2.2.2 gl.1 (fun(JZ:Int)=>
          S8 N gl.2.2.2.2.2 (List.getD yu (Int.toNat lA) aC).1 (fun(J0:Int)=>
           bif (JZ != J0) then
            lL false
           else
            next))
        else none
       else none)) (
    uD) gl.2.2.2.2.2 0:=by
 exact cK (f:=fun n i=>kM N yu ID gl n uD lL i) (l:=gl.2.2.2.2.2) (fun n i h=>by
  simp only[kM]
  rw[decide_eq_true (show(i:Int)<(List.length gl.2.2.2.2.2:Int) by omega)]
  simp only[cond_true,aG h,Int.toNat_natCast,ax _ i h]) (fun n=>by
  simp only[kM]
  rw[decide_eq_false (by omega)]
  simp only[cond_false]) hl gl.2.2.2.2.2 0 n rfl (by omega) hn
theorem Z7 {N:Nat} {af:(List QT)} {rb:Option ab} {dH:Bool→Option ab} (hl:(List.length af)≤maxLen) {n:Nat} (hn:(List.length af)<n):ot N af n rb dH (0:Int)=
  lX (fun(i:Nat) (x:QT) (next:Option ab)=>
    iP N x.1 (1:Int) (99:Int) (fun(FF:Bool)=>
     bif (!FF) then
      dH false
     else
      iP N x.2.1 (1:Int) (99:Int) (fun(FR:Bool)=>
       bif (!FR) then
        dH false
       else
        iP N x.2.2.1 (0:Int) (List.length x.2.2.2.2.2:Int) (fun(Oz:Bool)=>
         bif (!Oz) then
          dH false
         else
          iP N x.2.2.2.2.1 (0:Int) (List.length x.2.2.2.2.2:Int) (fun(adQ:Bool)=>
           bif (!adQ) then
            dH false
           else
            iP N x.2.2.2.1 (0:Int) (100000:Int) (fun(adR:Bool)=>
             bif (!adR) then
              dH false
             else
              bif (decide ((List.length x.2.2.2.2.2:Int)>(20:Int))) then
               dH false
              else
               bif (decide ((i:Int)>(0:Int))) then
                bif (bC (IntKind.wrap .i64 ((i:Int) - (1:Int))) (List.length af)) then
                 bif (decide ((List.getD af (Int.toNat (IntKind.wrap .i64 ((i:Int) - (1:Int)))) aC).1≥x.1)) then
                  dH false
                 else
                  kM N af (i:Int) x N next dH (0:Int)
                else none
               else
                kM N af (i:Int) x N next dH (0:Int))))))) (
    rb) af 0:=by
 exact cK (f:=fun n i=>ot N af n rb dH i) (l:=af) (fun n i h=>by
  simp only[ot]
  rw[decide_eq_true (show(i:Int)<(List.length af:Int) by omega)]
  simp only[cond_true,aG h,Int.toNat_natCast,ax _ i h]) (fun n=>by
  simp only[ot]
  rw[decide_eq_false (by omega)]
  simp only[cond_false]) hl af 0 n rfl (by omega) hn
theorem F6 {ou:(List QT)} {pR:(List Int)→Option ab} {mE:(List Int)} (hl:(List.length ou)≤maxLen) {n:Nat} (hn:(List.length ou)<n):l5 ou n pR mE (0:Int)=
  c6 (fun(i:Nat) (x:QT) (mE:(List Int)) (next:(List Int)→Option ab)=>
    bif (decide ((List.length mE+List.length [x.1])*1≤4398046511104)) then
     next (mE++[x.1])
    else none) (fun(mE:(List Int))=>
    pR mE) ou 0 mE:=by
 exact eh (f:=fun n mE i=>l5 ou n pR mE i) (l:=ou) (fun n i mE h=>by
  simp only[l5]
  rw[decide_eq_true (show(i:Int)<(List.length ou:Int) by omega)]
  simp only[cond_true,aG h,Int.toNat_natCast,ax _ i h]) (fun n mE=>by
  simp only[l5]
  rw[decide_eq_false (by omega)]
  simp only[cond_false]) hl ou 0 n mE rfl (by omega) hn
theorem Z8 {N:Nat} {af:(List QT)} {ov:(List QT)→Option ab} {aR:(List QT)} (hl:(List.length af)≤maxLen) {n:Nat} (hn:(List.length af)<n):rh N af n ov aR (0:Int)=
  c6 (fun(i:Nat) (x:QT) (aR:(List QT)) (next:(List QT)→Option ab)=>
    vf N af (fun(adT:Bool)=>
     bif adT then
      rf N af aR (i:Int) N (fun(ju:Int)=>
       bif (decide ((0:Int)≤(0:Int))&&decide ((0:Int)≤ju)&&decide (ju≤(List.length aR:Int))) then
        bif (decide ((0:Int)≤ju)&&decide (ju≤(List.length aR:Int))&&decide ((List.length aR:Int)≤(List.length aR:Int))) then
         bif (decide ((List.length ([]:(List QT))+List.length (List.drop 0 (List.take (Int.toNat ju) aR)))*6≤4398046511104)) then
          bif (decide ((List.length (([]:(List QT))++(List.drop 0 (List.take (Int.toNat ju) aR)))+List.length [x])*6≤4398046511104)) then
           bif (decide ((List.length ((([]:(List QT))++(List.drop 0 (List.take (Int.toNat ju) aR)))++[x])+List.length (List.drop (Int.toNat ju) (List.take (Int.toNat (List.length aR:Int)) aR)))*6≤4398046511104)) then
            next (((([]:(List QT))++(List.drop 0 (List.take (Int.toNat ju) aR)))++[x])++(List.drop (Int.toNat ju) (List.take (Int.toNat (List.length aR:Int)) aR)))
           else none
          else none
         else none
        else none
       else none) (List.length aR:Int)
     else
      ov aR)) (fun(aR:(List QT))=>
    ov aR) af 0 aR:=by
 exact eh (f:=fun n aR i=>rh N af n ov aR i) (l:=af) (fun n i aR h=>by
  simp only[rh]
  rw[decide_eq_true (show(i:Int)<(List.length af:Int) by omega)]
  simp only[cond_true,aG h,Int.toNat_natCast,ax _ i h]) (fun n aR=>by
  simp only[rh]
  rw[decide_eq_false (by omega)]
  simp only[cond_false]) hl af 0 n aR rfl (by omega) hn
theorem Z9 {af:(List Int)} {aM:Int} {cI:Option ab} {dx:Bool→Option ab} (hl:(List.length af)≤maxLen) {n:Nat} (hn:(List.length af)<n):rk af aM n cI dx (0:Int)=
  lX (fun(i:Nat) (x:Int) (next:Option ab)=>
    bif (x==aM) then
     dx true
    else
     next) (
    cI) af 0:=by
 exact cK (f:=fun n i=>rk af aM n cI dx i) (l:=af) (fun n i h=>by
  simp only[rk]
  rw[decide_eq_true (show(i:Int)<(List.length af:Int) by omega)]
  simp only[cond_true,aG h,Int.toNat_natCast,ax _ i h]) (fun n=>by
  simp only[rk]
  rw[decide_eq_false (by omega)]
  simp only[cond_false]) hl af 0 n rfl (by omega) hn
theorem Z' {N:Nat} {fW:(List QJ)} {kN:Int} {rp:Option ab} {mP:Bool→Option ab} (vp:(bC kN (List.length fW))=true) (hl:(List.length (List.getD fW (Int.toNat kN) cY).2.2)≤maxLen) {n:Nat} (hn:(List.length (List.getD fW (Int.toNat kN) cY).2.2)<n):jD N fW kN n rp mP (0:Int)=
  lX (fun(i:Nat) (x:_) (next:Option ab)=>
    iP N x (1:Int) (99:Int) (fun(Td:Bool)=>
     bif (!Td) then
      mP false
     else
      bif (decide ((i:Int)>(0:Int))) then
       bif (bC (IntKind.wrap .i64 ((i:Int) - (1:Int))) (List.length (List.getD fW (Int.toNat kN) cY).2.2)) then
        bif (decide ((List.getD (List.getD fW (Int.toNat kN) cY).2.2 (Int.toNat (IntKind.wrap .i64 ((i:Int) - (1:Int)))) (0:Int))≥x)) then
         mP false
        else
         next
       else none
      else
       next)) (
    rp) ((List.getD fW (Int.toNat kN) cY).2.2) 0:=by
 exact cK (f:=fun n i=>jD N fW kN n rp mP i) (l:=((List.getD fW (Int.toNat kN) cY).2.2)) (fun n i h=>by
  simp only[jD,vp,cond_true]
  rw[decide_eq_true (show(i:Int)<(List.length ((List.getD fW (Int.toNat kN) cY).2.2):Int) by omega)]
  simp only[cond_true,aG h,Int.toNat_natCast,ax _ i h]) (fun n=>by
  simp only[jD,vp,cond_true]
  rw[decide_eq_false (by omega)]
  simp only[cond_false]) hl ((List.getD fW (Int.toNat kN) cY).2.2) 0 n rfl (by omega) hn
theorem aaa {N:Nat} {af:(List QJ)} {rq:Option ab} {gN:Bool→Option ab} (hl:(List.length af)≤maxLen) {n:Nat} (hn:(List.length af)<n):oy N af n rq gN (0:Int)=
  lX (fun(i:Nat) (x:QJ) (next:Option ab)=>
    iP N x.1 (1:Int) (99:Int) (fun(Ol:Bool)=>
     bif (!Ol) then
      gN false
     else
      iP N x.2.1 (1:Int) (99:Int) (fun(FR:Bool)=>
       bif (!FR) then
        gN false
       else
        bif (decide ((i:Int)>(0:Int))) then
         bif (bC (IntKind.wrap .i64 ((i:Int) - (1:Int))) (List.length af)) then
          bif (decide ((List.getD af (Int.toNat (IntKind.wrap .i64 ((i:Int) - (1:Int)))) cY).1≥x.1)) then
           gN false
          else
           jD N af (i:Int) N next gN (0:Int)
         else none
        else
         jD N af (i:Int) N next gN (0:Int)))) (
    rq) af 0:=by
 exact cK (f:=fun n i=>oy N af n rq gN i) (l:=af) (fun n i h=>by
  simp only[oy]
  rw[decide_eq_true (show(i:Int)<(List.length af:Int) by omega)]
  simp only[cond_true,aG h,Int.toNat_natCast,ax _ i h]) (fun n=>by
  simp only[oy]
  rw[decide_eq_false (by omega)]
  simp only[cond_false]) hl af 0 n rfl (by omega) hn
theorem aab {N:Nat} {af:(List Int)} {fe:Int→Option ab} {aR:Int} (hl:(List.length af)≤maxLen) {n:Nat} (hn:(List.length af)<n):rr N af n fe aR (0:Int)=
  c6 (fun(i:Nat) (x:Int) (aR:Int) (next:Int→Option ab)=>
    adV N x (2147483647:Int) (fun(adW:Int)=>
     next (Int.tmod (IntKind.wrap .i64 ((IntKind.wrap .i64 ((IntKind.wrap .i64 (aR*(1000003:Int)))+adW))+(13:Int))) (2147483647:Int)))) (fun(aR:Int)=>
    fe aR) af 0 aR:=by
 exact eh (f:=fun n aR i=>rr N af n fe aR i) (l:=af) (fun n i aR h=>by
  simp only[rr]
  rw[decide_eq_true (show(i:Int)<(List.length af:Int) by omega)]
  simp only[cond_true,aG h,Int.toNat_natCast,ax _ i h]) (fun n aR=>by
  simp only[rr]
  rw[decide_eq_false (by omega)]
  simp only[cond_false]) hl af 0 n aR rfl (by omega) hn
theorem aac {N:Nat} {af:(List QL)} {dD:Option ab} {gL:Bool→Option ab} {aR:Int} (hl:(List.length af)≤maxLen) {n:Nat} (hn:(List.length af)<n):ru N af n dD gL aR (0:Int)=
  c6 (fun(i:Nat) (x:QL) (aR:Int) (next:Int→Option ab)=>
    bif (decide ((List.length af:Int)≤(200:Int))) then
     Tg N aR x (fun(vB:Int)=>
      bif (x.1 != (IntKind.wrap .i64 ((i:Int)+(1:Int)))) then
       gL false
      else
       iP N x.2.1 (1:Int) (9:Int) (fun(OI:Bool)=>
        bif (!OI) then
         gL false
        else
         iP N x.2.2.1 (0:Int) (99:Int) (fun(OJ:Bool)=>
          bif (!OJ) then
           gL false
          else
           bif (x.2.2.2 != vB) then
            gL false
           else
            next vB)))
    else
     dD) (fun(aR:Int)=>
    dD) af 0 aR:=by
 exact eh (f:=fun n aR i=>ru N af n dD gL aR i) (l:=af) (fun n i aR h=>by
  simp only[ru]
  rw[decide_eq_true (show(i:Int)<(List.length af:Int) by omega)]
  simp only[cond_true,aG h,Int.toNat_natCast,ax _ i h]) (fun n aR=>by
  simp only[ru]
  rw[decide_eq_false (by omega)]
  simp only[cond_false]) hl af 0 n aR rfl (by omega) hn
theorem aad {N:Nat} {af:(List QT)} {fe:Int→Option ab} {aR:Int} (hl:(List.length af)≤maxLen) {n:Nat} (hn:(List.length af)<n):rv N af n fe aR (0:Int)=
  c6 (fun(i:Nat) (x:QT) (aR:Int) (next:Int→Option ab)=>
    vf N af (fun(adY:Bool)=>
     bif adY then
      next (IntKind.wrap .i64 (aR+x.2.2.1))
     else
      fe aR)) (fun(aR:Int)=>
    fe aR) af 0 aR:=by
 exact eh (f:=fun n aR i=>rv N af n fe aR i) (l:=af) (fun n i aR h=>by
  simp only[rv]
  rw[decide_eq_true (show(i:Int)<(List.length af:Int) by omega)]
  simp only[cond_true,aG h,Int.toNat_natCast,ax _ i h]) (fun n aR=>by
  simp only[rv]
  rw[decide_eq_false (by omega)]
  simp only[cond_false]) hl af 0 n aR rfl (by omega) hn
theorem aae {N:Nat} {af:(List QT)} {aM:(List cg)} {cU:(List Int)→Option ab} {lM:Bool→Option ab} {bH:(List Int)} (hl:(List.length aM)≤maxLen) {n:Nat} (hn:(List.length aM)<n):ry N af aM n cU lM bH (0:Int)=
  c6 (fun(i:Nat) (x:cg) (bH:(List Int)) (next:(List Int)→Option ab)=>
    S9 N af x.1 x.2 (fun(OK:Bool)=>
     bif (!OK) then
      lM false
     else
      wD N bH x.1 (fun(OL:Bool)=>
       bif OL then
        lM false
       else
        wD N bH x.2 (fun(OM:Bool)=>
         bif OM then
          lM false
         else
          bif (decide ((List.length bH+List.length [x.1,x.2])*1≤4398046511104)) then
           next (bH++[x.1,x.2])
          else none)))) (fun(bH:(List Int))=>
    cU bH) aM 0 bH:=by
 exact eh (f:=fun n bH i=>ry N af aM n cU lM bH i) (l:=aM) (fun n i bH h=>by
  simp only[ry]
  rw[decide_eq_true (show(i:Int)<(List.length aM:Int) by omega)]
  simp only[cond_true,aG h,Int.toNat_natCast,ax _ i h]) (fun n bH=>by
  simp only[ry]
  rw[decide_eq_false (by omega)]
  simp only[cond_false]) hl aM 0 n bH rfl (by omega) hn
theorem aaf {af:(List QJ)} {aM:Int} {cI:Option ab} {dx:Int→Option ab} (hl:(List.length af)≤maxLen) {n:Nat} (hn:(List.length af)<n):rz af aM n cI dx (0:Int)=
  lX (fun(i:Nat) (x:QJ) (next:Option ab)=>
    bif (x.1==aM) then
     dx (i:Int)
    else
     next) (
    cI) af 0:=by
 exact cK (f:=fun n i=>rz af aM n cI dx i) (l:=af) (fun n i h=>by
  simp only[rz]
  rw[decide_eq_true (show(i:Int)<(List.length af:Int) by omega)]
  simp only[cond_true,aG h,Int.toNat_natCast,ax _ i h]) (fun n=>by
  simp only[rz]
  rw[decide_eq_false (by omega)]
  simp only[cond_false]) hl af 0 n rfl (by omega) hn
theorem aag {N:Nat} {wx:(List QT)} {kZ:(List QJ)} {lz:(List cg)} {ke:(List Int)} {kO:Option ab} {gO:Bool→Option ab} (hl:(List.length lz)≤maxLen) {n:Nat} (hn:(List.length lz)<n):rA N wx kZ lz ke n kO gO (0:Int)=
  lX (fun(i:Nat) (x:cg) (next:Option ab)=>
    bif (bC (i:Int) (List.length ke)) then
     FT N kZ (List.getD ke (Int.toNat (i:Int)) (0:Int)) (fun(FV:Int)=>
      bif (decide (FV<(0:Int))) then
       gO false
      else
       bif (decide ((0:Int)≤(0:Int))&&decide ((0:Int)≤(i:Int))&&decide ((i:Int)≤(List.length ke:Int))) then
        bif (bC (i:Int) (List.length ke)) then
         wD N (List.drop (Int.toNat (0:Int)) (List.take (Int.toNat (i:Int)) ke)) (List.getD ke (Int.toNat (i:Int)) (0:Int)) (fun(adZ:Bool)=>
          bif adZ then
           gO false
          else
           bif (bC FV (List.length kZ)) then
            ZH N wx (List.getD kZ (Int.toNat FV) cY) x (fun(Th:Bool)=>
             bif (!Th) then
              gO false
             else
              next)
           else none)
        else none
       else none)
    else none) (
    kO) lz 0:=by
 exact cK (f:=fun n i=>rA N wx kZ lz ke n kO gO i) (l:=lz) (fun n i h=>by
  simp only[rA]
  rw[decide_eq_true (show(i:Int)<(List.length lz:Int) by omega)]
  simp only[cond_true,aG h,Int.toNat_natCast,ax _ i h]) (fun n=>by
  simp only[rA]
  rw[decide_eq_false (by omega)]
  simp only[cond_false]) hl lz 0 n rfl (by omega) hn
theorem aah {N:Nat} {mQ:QC} {FW:QB} {rB:Option ab} {mR:Bool→Option ab} (hl:(List.length mQ.2.2.2.2.1)≤maxLen) {n:Nat} (hn:(List.length mQ.2.2.2.2.1)<n):oA N mQ FW n rB mR (0:Int)=
  lX (fun(i:Nat) (x:_) (next:Option ab)=>
    bif (!((decide ((x.1:Int)=FW.1))&&((decide ((x.2.1:Int)=FW.2.1))&&(decide ((x.2.2:Int)=FW.2.2))))) then
     ON N x (fun(Ti:Bool)=>
      bif (!Ti) then
       mR false
      else
       bif (bC (i:Int) (List.length mQ.2.2.2.1)) then
        bif (x.1 != (List.getD mQ.2.2.2.1 (Int.toNat (i:Int)) (0:Int))) then
         mR false
        else
         next
       else none)
    else
     next) (
    rB) mQ.2.2.2.2.1 0:=by
 exact cK (f:=fun n i=>oA N mQ FW n rB mR i) (l:=mQ.2.2.2.2.1) (fun n i h=>by
  simp only[oA]
  rw[decide_eq_true (show(i:Int)<(List.length mQ.2.2.2.2.1:Int) by omega)]
  simp only[cond_true,aG h,Int.toNat_natCast,ax _ i h]) (fun n=>by
  simp only[oA]
  rw[decide_eq_false (by omega)]
  simp only[cond_false]) hl mQ.2.2.2.2.1 0 n rfl (by omega) hn
theorem aai {fV:QC} {cL:QB} {dE:(List Int)→Option ab} {aR:(List Int)} (hl:(List.length fV.2.2.2.2.1)≤maxLen) {n:Nat} (hn:(List.length fV.2.2.2.2.1)<n):oD fV cL n dE aR (0:Int)=
  c6 (fun(i:Nat) (x:_) (aR:(List Int)) (next:(List Int)→Option ab)=>
    bif ((decide ((x.1:Int)=cL.1))&&((decide ((x.2.1:Int)=cL.2.1))&&(decide ((x.2.2:Int)=cL.2.2)))) then
     bif (decide ((List.length aR+List.length [(i:Int)])*1≤4398046511104)) then
      next (aR++[(i:Int)])
     else none
    else
     next aR) (fun(aR:(List Int))=>
    dE aR) fV.2.2.2.2.1 0 aR:=by
 exact eh (f:=fun n aR i=>oD fV cL n dE aR i) (l:=fV.2.2.2.2.1) (fun n i aR h=>by
  simp only[oD]
  rw[decide_eq_true (show(i:Int)<(List.length fV.2.2.2.2.1:Int) by omega)]
  simp only[cond_true,aG h,Int.toNat_natCast,ax _ i h]) (fun n aR=>by
  simp only[oD]
  rw[decide_eq_false (by omega)]
  simp only[cond_false]) hl fV.2.2.2.2.1 0 n aR rfl (by omega) hn
theorem aaj {N:Nat} {af:(List QB)} {cI:Option ab} {dx:Bool→Option ab} (hl:(List.length af)≤maxLen) {n:Nat} (hn:(List.length af)<n):oH N af n cI dx (0:Int)=
  lX (fun(i:Nat) (x:QB) (next:Option ab)=>
    ON N x (fun(FX:Bool)=>
     bif (!FX) then
      dx false
     else
      bif (decide ((i:Int)>(0:Int))) then
       bif (bC (IntKind.wrap .i64 ((i:Int) - (1:Int))) (List.length af)) then
        bif (decide ((List.getD af (Int.toNat (IntKind.wrap .i64 ((i:Int) - (1:Int)))) gU).1≥x.1)) then
         dx false
        else
         next
       else none
      else
       next)) (
    cI) af 0:=by
 exact cK (f:=fun n i=>oH N af n cI dx i) (l:=af) (fun n i h=>by
  simp only[oH]
  rw[decide_eq_true (show(i:Int)<(List.length af:Int) by omega)]
  simp only[cond_true,aG h,Int.toNat_natCast,ax _ i h]) (fun n=>by
  simp only[oH]
  rw[decide_eq_false (by omega)]
  simp only[cond_false]) hl af 0 n rfl (by omega) hn
theorem aak {N:Nat} {af:(List QB)} {aM:Int} {cU:Int→Option ab} {bH:Int} (hl:(List.length af)≤maxLen) {n:Nat} (hn:(List.length af)<n):oI N af aM n cU bH (0:Int)=
  c6 (fun(i:Nat) (x:QB) (bH:Int) (next:Int→Option ab)=>
    Tk N af (fun(OO:Bool)=>
     bif OO then
      ZK N x (fun(Oj:Int)=>
       bif (Oj==aM) then
        next (IntKind.wrap .i64 (bH+(1:Int)))
       else
        next bH)
     else
      cU bH)) (fun(bH:Int)=>
    cU bH) af 0 bH:=by
 exact eh (f:=fun n bH i=>oI N af aM n cU bH i) (l:=af) (fun n i bH h=>by
  simp only[oI]
  rw[decide_eq_true (show(i:Int)<(List.length af:Int) by omega)]
  simp only[cond_true,aG h,Int.toNat_natCast,ax _ i h]) (fun n bH=>by
  simp only[oI]
  rw[decide_eq_false (by omega)]
  simp only[cond_false]) hl af 0 n bH rfl (by omega) hn
theorem aal {af:(List Int)} {aM:Int} {cI:Int→Option ab} (hl:(List.length af)≤maxLen) {n:Nat} (hn:(List.length af)<n):rC af aM n cI (0:Int)=
  lX (fun(i:Nat) (x:Int) (next:Option ab)=>
    bif (decide (x<aM)) then
     next
    else
     cI (i:Int)) (
    cI (List.length af:Int)) af 0:=by
 exact cK (f:=fun n i=>rC af aM n cI i) (l:=af) (fun n i h=>by
  simp only[rC]
  rw[decide_eq_true (show(i:Int)<(List.length af:Int) by omega)]
  simp only[cond_true,aG h,Int.toNat_natCast,ax _ i h]) (fun n=>by
  simp only[rC]
  rw[decide_eq_false (by omega)]
  simp only[cond_false]) hl af 0 n rfl (by omega) hn
theorem aek {N:Nat} {gz:QC} {OP:QC} {rD:QC→Bool→Option ab} {eC:QC} {rE:Bool} (hl:(List.length gz.2.2.1)≤maxLen) {n:Nat} (hn:(List.length gz.2.2.1)<n):tG N gz OP n rD eC rE (0:Int)=
  Zr (fun(i:Nat) (x:_) (eC:QC) (rE:Bool) (next:QC→Bool→Option ab)=>
    bif (bC (i:Int) (List.length gz.2.2.2.2.1)) then
     ZL N [(List.getD gz.2.2.2.2.1 (Int.toNat (i:Int)) gU)] (fun(FY:Int)=>
      ZM N eC.1 x.1 x.2 FY (List.getD gz.2.2.2.2.1 (Int.toNat (i:Int)) gU).2.1 (List.getD gz.2.2.2.2.1 (Int.toNat (i:Int)) gU).2.2 (fun(tH:(List QT)) (qN:Bool)=>
       bif rE then
        bif (bC (i:Int) (List.length gz.2.2.2.1)) then
         FT N eC.2.1 (List.getD gz.2.2.2.1 (Int.toNat (i:Int)) (0:Int)) (fun(gn:Int)=>
          bif (bC gn (List.length eC.2.1)) then
           wE N (List.getD eC.2.1 (Int.toNat gn) cY).2.2 x.1 (fun(FZ:(List Int))=>
            wE N FZ x.2 (fun(yx:(List Int))=>
             bif (bC gn (List.length eC.2.1)) then
              next (tH,((List.set eC.2.1 (Int.toNat gn) ((List.getD eC.2.1 (Int.toNat gn) cY).1,((List.getD eC.2.1 (Int.toNat gn) cY).2.1,yx))),eC.2.2)) qN
             else none))
          else none)
        else none
       else
        bif (bC (i:Int) (List.length gz.2.2.2.1)) then
         FT N eC.2.1 (List.getD gz.2.2.2.1 (Int.toNat (i:Int)) (0:Int)) (fun(gp:Int)=>
          bif (bC gp (List.length eC.2.1)) then
           wE N (List.getD eC.2.1 (Int.toNat gp) cY).2.2 x.1 (fun(wz:(List Int))=>
            wE N wz x.2 (fun(yy:(List Int))=>
             bif (bC gp (List.length eC.2.1)) then
              next (tH,((List.set eC.2.1 (Int.toNat gp) ((List.getD eC.2.1 (Int.toNat gp) cY).1,((List.getD eC.2.1 (Int.toNat gp) cY).2.1,yy))),eC.2.2)) false
             else none))
          else none)
        else none))
    else none) (fun(eC:QC) (rE:Bool)=>
    rD eC rE) gz.2.2.1 0 eC rE:=by
 exact adm (f:=fun n eC rE i=>tG N gz OP n rD eC rE i) (l:=gz.2.2.1) (fun n i eC rE h=>by
  simp only[tG]
  rw[decide_eq_true (show(i:Int)<(List.length gz.2.2.1:Int) by omega)]
  simp only[cond_true,aG h,Int.toNat_natCast,ax _ i h]) (fun n eC rE=>by
  simp only[tG]
  rw[decide_eq_false (by omega)]
  simp only[cond_false]) hl gz.2.2.1 0 n eC rE rfl (by omega) hn
theorem aam {aM:Int} {gy:Int} {db:QC} {J4:QC} {J5:QC} {cU:Int→Option ab} (hl:(List.length db.1)≤maxLen) {n:Nat} (hn:(List.length db.1)<n):oJ aM gy db J4 J5 n cU (0:Int)=
  lX (fun(i:Nat) (x:_) (next:Option ab)=>
    bif (decide (x.1<aM)) then
     next
    else
     cU (i:Int)) (
    cU (List.length db.1:Int)) db.1 0:=by
 exact cK (f:=fun n i=>oJ aM gy db J4 J5 n cU i) (l:=db.1) (fun n i h=>by
  simp only[oJ]
  rw[decide_eq_true (show(i:Int)<(List.length db.1:Int) by omega)]
  simp only[cond_true,aG h,Int.toNat_natCast,ax _ i h]) (fun n=>by
  simp only[oJ]
  rw[decide_eq_false (by omega)]
  simp only[cond_false]) hl db.1 0 n rfl (by omega) hn
theorem aan {aM:Int} {gy:Int} {db:QC} {J4:QC} {J5:QC} {cU:Int→Option ab} (hl:(List.length db.2.1)≤maxLen) {n:Nat} (hn:(List.length db.2.1)<n):oK aM gy db J4 J5 n cU (0:Int)=
  lX (fun(i:Nat) (x:_) (next:Option ab)=>
    bif (decide (x.1<aM)) then
     next
    else
     cU (i:Int)) (
    cU (List.length db.2.1:Int)) db.2.1 0:=by
 exact cK (f:=fun n i=>oK aM gy db J4 J5 n cU i) (l:=db.2.1) (fun n i h=>by
  simp only[oK]
  rw[decide_eq_true (show(i:Int)<(List.length db.2.1:Int) by omega)]
  simp only[cond_true,aG h,Int.toNat_natCast,ax _ i h]) (fun n=>by
  simp only[oK]
  rw[decide_eq_false (by omega)]
  simp only[cond_false]) hl db.2.1 0 n rfl (by omega) hn
theorem aao {af:(List Int)} {aM:(List Int)} {dX:Option ab} {dY:Bool→Option ab} (hl:(List.length af)≤maxLen) {n:Nat} (hn:(List.length af)<n):rH af aM (List.length af:Int) n dX dY (0:Int)=
  lX (fun(i:Nat) (x:Int) (next:Option ab)=>
    bif (bC (i:Int) (List.length aM)) then
     bif (x != (List.getD aM (Int.toNat (i:Int)) (0:Int))) then
      dY false
     else
      next
    else none) (
    dX) af 0:=by
 exact cK (f:=fun n i=>rH af aM (List.length af:Int) n dX dY i) (l:=af) (fun n i h=>by
  simp only[rH]
  rw[decide_eq_true (show(i:Int)<(List.length af:Int) by omega)]
  simp only[cond_true,aG h,Int.toNat_natCast,ax _ i h]) (fun n=>by
  simp only[rH]
  rw[decide_eq_false (by omega)]
  simp only[cond_false]) hl af 0 n rfl (by omega) hn
theorem aap {N:Nat} {fV:(List QT)} {fq:(List QT)} {dE:Option ab} {eX:Bool→Option ab} (hl:(List.length fq)≤maxLen) {n:Nat} (hn:(List.length fq)<n):rI N fV fq (List.length fq:Int) n dE eX (0:Int)=
  lX (fun(i:Nat) (x:QT) (next:Option ab)=>
    bif (bC (i:Int) (List.length fV)) then
     ai9 N x (List.getD fV (Int.toNat (i:Int)) aC) (fun(F3:Bool)=>
      bif (!F3) then
       eX false
      else
       next)
    else none) (
    dE) fq 0:=by
 exact cK (f:=fun n i=>rI N fV fq (List.length fq:Int) n dE eX i) (l:=fq) (fun n i h=>by
  simp only[rI]
  rw[decide_eq_true (show(i:Int)<(List.length fq:Int) by omega)]
  simp only[cond_true,aG h,Int.toNat_natCast,ax _ i h]) (fun n=>by
  simp only[rI]
  rw[decide_eq_false (by omega)]
  simp only[cond_false]) hl fq 0 n rfl (by omega) hn
theorem aaq {N:Nat} {fV:(List QJ)} {fq:(List QJ)} {dE:Option ab} {eX:Bool→Option ab} (hl:(List.length fq)≤maxLen) {n:Nat} (hn:(List.length fq)<n):rJ N fV fq (List.length fq:Int) n dE eX (0:Int)=
  lX (fun(i:Nat) (x:QJ) (next:Option ab)=>
    bif (bC (i:Int) (List.length fV)) then
     aja N x (List.getD fV (Int.toNat (i:Int)) cY) (fun(F3:Bool)=>
      bif (!F3) then
       eX false
      else
       next)
    else none) (
    dE) fq 0:=by
 exact cK (f:=fun n i=>rJ N fV fq (List.length fq:Int) n dE eX i) (l:=fq) (fun n i h=>by
  simp only[rJ]
  rw[decide_eq_true (show(i:Int)<(List.length fq:Int) by omega)]
  simp only[cond_true,aG h,Int.toNat_natCast,ax _ i h]) (fun n=>by
  simp only[rJ]
  rw[decide_eq_false (by omega)]
  simp only[cond_false]) hl fq 0 n rfl (by omega) hn
theorem aar {af:(List cg)} {aM:(List cg)} {dX:Option ab} {dY:Bool→Option ab} (hl:(List.length af)≤maxLen) {n:Nat} (hn:(List.length af)<n):rK af aM (List.length af:Int) n dX dY (0:Int)=
  lX (fun(i:Nat) (x:cg) (next:Option ab)=>
    bif (bC (i:Int) (List.length aM)) then
     bif (!((decide ((x.1:Int)=(List.getD aM (Int.toNat (i:Int)) dz).1))&&(decide ((x.2:Int)=(List.getD aM (Int.toNat (i:Int)) dz).2)))) then
      dY false
     else
      next
    else none) (
    dX) af 0:=by
 exact cK (f:=fun n i=>rK af aM (List.length af:Int) n dX dY i) (l:=af) (fun n i h=>by
  simp only[rK]
  rw[decide_eq_true (show(i:Int)<(List.length af:Int) by omega)]
  simp only[cond_true,aG h,Int.toNat_natCast,ax _ i h]) (fun n=>by
  simp only[rK]
  rw[decide_eq_false (by omega)]
  simp only[cond_false]) hl af 0 n rfl (by omega) hn
theorem aas {af:(List QB)} {aM:(List QB)} {dX:Option ab} {dY:Bool→Option ab} (hl:(List.length af)≤maxLen) {n:Nat} (hn:(List.length af)<n):rL af aM (List.length af:Int) n dX dY (0:Int)=
  lX (fun(i:Nat) (x:QB) (next:Option ab)=>
    bif (bC (i:Int) (List.length aM)) then
     bif (!((decide ((x.1:Int)=(List.getD aM (Int.toNat (i:Int)) gU).1))&&((decide ((x.2.1:Int)=(List.getD aM (Int.toNat (i:Int)) gU).2.1))&&(decide ((x.2.2:Int)=(List.getD aM (Int.toNat (i:Int)) gU).2.2))))) then
      dY false
     else
      next
    else none) (
    dX) af 0:=by
 exact cK (f:=fun n i=>rL af aM (List.length af:Int) n dX dY i) (l:=af) (fun n i h=>by
  simp only[rL]
  rw[decide_eq_true (show(i:Int)<(List.length af:Int) by omega)]
  simp only[cond_true,aG h,Int.toNat_natCast,ax _ i h]) (fun n=>by
  simp only[rL]
  rw[decide_eq_false (by omega)]
  simp only[cond_false]) hl af 0 n rfl (by omega) hn
end Go.Pv.R
