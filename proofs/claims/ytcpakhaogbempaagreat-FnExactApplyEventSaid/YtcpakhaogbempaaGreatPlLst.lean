/- Their loops over lists, without rounds. -/
import Derived.Test.YtcpakhaogbempaaGreatPlRes
namespace Go.Pv.R
set_option linter.unusedVariables false
set_option linter.unusedSimpArgs false
theorem aae {N:Nat} {eC:(List QT)} {bI:(List QT)→Option aa} {bF:(List QT)} (hl:(List.length eC)≤maxLen) {n:Nat} (hn:(List.length eC)<n):o8 N eC (List.length eC:Int) n bI bF (0:Int)=
  bR (fun(i:Nat) (x:QT) (bF:(List QT)) (next:(List QT)→Option aa)=>
    ID N x.2.2.2.2.2 (fun(rq:(List Int))=>
     bif (decide ((List.length bF+List.length [(x.1,(x.2.1,(x.2.2.1,(x.2.2.2.1,(x.2.2.2.2.1,rq)))))])*6≤4398046511104)) then
      next (bF++[(x.1,(x.2.1,(x.2.2.1,(x.2.2.2.1,(x.2.2.2.2.1,rq)))))])
     else none)) (fun(bF:(List QT))=>
    bI bF) eC 0 bF:=by
 exact ck (f:=fun n bF i=>o8 N eC (List.length eC:Int) n bI bF i) (l:=eC) (fun n i bF h=>by
  simp only[o8]
  rw[decide_eq_true (show(i:Int)<(List.length eC:Int) by omega)]
  simp only[cond_true,an h,Int.toNat_natCast,ai _ i h]) (fun n bF=>by
  simp only[o8]
  rw[decide_eq_false (by omega)]
  simp only[cond_false]) hl eC 0 n bF rfl (by omega) hn
theorem aaf {N:Nat} {eC:(List QJ)} {bI:(List QJ)→Option aa} {bF:(List QJ)} (hl:(List.length eC)≤maxLen) {n:Nat} (hn:(List.length eC)<n):o9 N eC (List.length eC:Int) n bI bF (0:Int)=
  bR (fun(i:Nat) (x:QJ) (bF:(List QJ)) (next:(List QJ)→Option aa)=>
    ID N x.2.2 (fun(rq:(List Int))=>
     bif (decide ((List.length bF+List.length [(x.1,(x.2.1,rq))])*3≤4398046511104)) then
      next (bF++[(x.1,(x.2.1,rq))])
     else none)) (fun(bF:(List QJ))=>
    bI bF) eC 0 bF:=by
 exact ck (f:=fun n bF i=>o9 N eC (List.length eC:Int) n bI bF i) (l:=eC) (fun n i bF h=>by
  simp only[o9]
  rw[decide_eq_true (show(i:Int)<(List.length eC:Int) by omega)]
  simp only[cond_true,an h,Int.toNat_natCast,ai _ i h]) (fun n bF=>by
  simp only[o9]
  rw[decide_eq_false (by omega)]
  simp only[cond_false]) hl eC 0 n bF rfl (by omega) hn
theorem aag {N:Nat} {ab:(List QT)} {aj:Int} {dF:Option aa} {eP:Int→Option aa} (hl:(List.length ab)≤maxLen) {n:Nat} (hn:(List.length ab)<n):pc N ab aj (List.length ab:Int) n dF eP (0:Int)=
  kF (fun(i:Nat) (x:QT) (next:Option aa)=>
    ajF N x aj (fun(l8:Bool)=>
     bif l8 then
      eP (i:Int)
     else
      next)) (
    dF) ab 0:=by
 exact b7 (f:=fun n i=>pc N ab aj (List.length ab:Int) n dF eP i) (l:=ab) (fun n i h=>by
  simp only[pc]
  rw[decide_eq_true (show(i:Int)<(List.length ab:Int) by omega)]
  simp only[cond_true,an h,Int.toNat_natCast,ai _ i h]) (fun n=>by
  simp only[pc]
  rw[decide_eq_false (by omega)]
  simp only[cond_false]) hl ab 0 n rfl (by omega) hn
theorem aah {N:Nat} {iC:(List Int)} {bI:Int→Option aa} {bF:Int} (hl:(List.length iC)≤maxLen) {n:Nat} (hn:(List.length iC)<n):pd N iC (List.length iC:Int) n bI bF (0:Int)=
  bR (fun(i:Nat) (x:Int) (bF:Int) (next:Int→Option aa)=>
    ajI N bF x (fun(adF:Int)=>
     next adF)) (fun(bF:Int)=>
    bI bF) iC 0 bF:=by
 exact ck (f:=fun n bF i=>pd N iC (List.length iC:Int) n bI bF i) (l:=iC) (fun n i bF h=>by
  simp only[pd]
  rw[decide_eq_true (show(i:Int)<(List.length iC:Int) by omega)]
  simp only[cond_true,an h,Int.toNat_natCast,ai _ i h]) (fun n bF=>by
  simp only[pd]
  rw[decide_eq_false (by omega)]
  simp only[cond_false]) hl iC 0 n bF rfl (by omega) hn
theorem aeA {N:Nat} {pf:(List QL)} {ig:Option aa} {gW:Bool→Option aa} {bF:Int} (hl:(List.length pf)≤maxLen) {n:Nat} (hn:(List.length pf)<n):uI N pf (List.length pf:Int) n ig gW bF (0:Int)=
  bR (fun(i:Nat) (x:QL) (bF:Int) (next:Int→Option aa)=>
    bif (x.1 != (IntKind.wrap .i64 ((i:Int)+(1:Int)))) then
     gW false
    else
     eD N x.2.1 (1:Int) (9:Int) (fun(xk:Bool)=>
      bif (!xk) then
       gW false
      else
       eD N x.2.2.1 (0:Int) (99:Int) (fun(Nc:Bool)=>
        bif (!Nc) then
         gW false
        else
         R0 N bF x (fun(Nd:Int)=>
          bif (x.2.2.2 != Nd) then
           gW false
          else
           next x.2.2.2)))) (fun(bF:Int)=>
    ig) pf 0 bF:=by
 exact ck (f:=fun n bF i=>uI N pf (List.length pf:Int) n ig gW bF i) (l:=pf) (fun n i bF h=>by
  simp only[uI]
  rw[decide_eq_true (show(i:Int)<(List.length pf:Int) by omega)]
  simp only[cond_true,an h,Int.toNat_natCast,ai _ i h]) (fun n bF=>by
  simp only[uI]
  rw[decide_eq_false (by omega)]
  simp only[cond_false]) hl pf 0 n bF rfl (by omega) hn
theorem aeB {lh:Int} {nz:(List Int)} {cS:Int→Option aa} {fU:Int} (hl:(List.length nz)≤maxLen) {n:Nat} (hn:(List.length nz)<n):rv lh nz (List.length nz:Int) n cS fU (0:Int)=
  bR (fun(i:Nat) (x:Int) (fU:Int) (next:Int→Option aa)=>
    bif (x==lh) then
     next (IntKind.wrap .i64 (fU+(1:Int)))
    else
     next fU) (fun(fU:Int)=>
    cS fU) nz 0 fU:=by
 exact ck (f:=fun n fU i=>rv lh nz (List.length nz:Int) n cS fU i) (l:=nz) (fun n i fU h=>by
  simp only[rv]
  rw[decide_eq_true (show(i:Int)<(List.length nz:Int) by omega)]
  simp only[cond_true,an h,Int.toNat_natCast,ai _ i h]) (fun n fU=>by
  simp only[rv]
  rw[decide_eq_false (by omega)]
  simp only[cond_false]) hl nz 0 n fU rfl (by omega) hn
theorem SC {N:Nat} {tK:(List QT)} {tL:QT} {IF:(List QT)} {IG:Int} {IH:Int} {gD:(List Int)} {n6:Option aa} {gM:Bool→Option aa} (hl:(List.length gD)≤maxLen) {n:Nat} (hn:(List.length gD)<n):gL N tK tL IF IG IH gD (List.length gD:Int) n n6 gM (0:Int)=
  kF (fun(i:Nat) (x:Int) (next:Option aa)=>
    Nb N tK x (fun(uJ:Int)=>
     bif (decide (uJ<(0:Int))) then
      gM false
     else
      bif (x==tL.1) then
       gM false
      else
       bif (aN uJ (List.length tK)) then
        I78 N tL.2.2.2.2.2 x (fun(R1:Int)=>
         I78 N (List.getD tK (Int.toNat uJ) au).2.2.2.2.2 tL.1 (fun(II:Int)=>
          bif (R1 != II) then
           gM false
          else
           next))
       else none)) (
    n6) gD 0:=by
 exact b7 (f:=fun n i=>gL N tK tL IF IG IH gD (List.length gD:Int) n n6 gM i) (l:=gD) (fun n i h=>by
  simp only[gL]
  rw[decide_eq_true (show(i:Int)<(List.length gD:Int) by omega)]
  simp only[cond_true,an h,Int.toNat_natCast,ai _ i h]) (fun n=>by
  simp only[gL]
  rw[decide_eq_false (by omega)]
  simp only[cond_false]) hl gD 0 n rfl (by omega) hn
theorem aai {N:Nat} {ab:(List QT)} {cG:(List QT)} {pg:Option aa} {bH:Bool→Option aa} (hl:(List.length cG)≤maxLen) {n:Nat} (hn:(List.length cG)<n):mQ N ab cG (List.length cG:Int) n pg bH (0:Int)=
  kF (fun(i:Nat) (x:QT) (next:Option aa)=>
    eD N x.1 (1:Int) (99:Int) (fun(xk:Bool)=>
     bif (!xk) then
      bH false
     else
      bif (decide ((i:Int)>(0:Int))) then
       bif (aN (IntKind.wrap .i64 ((i:Int) - (1:Int))) (List.length ab)) then
        bif (decide (x.1≤(List.getD ab (Int.toNat (IntKind.wrap .i64 ((i:Int) - (1:Int)))) au).1)) then
         bH false
        else
         eD N x.2.1 (1:Int) (99:Int) (fun(adK:Bool)=>
          bif (!adK) then
           bH false
          else
           bif (decide ((List.length x.2.2.2.2.2:Int)>(20:Int))) then
            bH false
           else
            eD N x.2.2.1 (0:Int) (List.length x.2.2.2.2.2:Int) (fun(Hy:Bool)=>
             bif (!Hy) then
              bH false
             else
              eD N x.2.2.2.2.1 (0:Int) (List.length x.2.2.2.2.2:Int) (fun(adL:Bool)=>
               bif (!adL) then
                bH false
               else
                eD N x.2.2.2.1 (0:Int) (100000:Int) (fun(R2:Bool)=>
                 bif (!R2) then
                  bH false
                 else
                  gL N ab x cG (List.length cG:Int) (i:Int) x.2.2.2.2.2 (List.length x.2.2.2.2.2:Int) N next bH (0:Int)))))
       else none
      else
       eD N x.2.1 (1:Int) (99:Int) (fun(R3:Bool)=>
        bif (!R3) then
         bH false
        else
         bif (decide ((List.length x.2.2.2.2.2:Int)>(20:Int))) then
          bH false
         else
          eD N x.2.2.1 (0:Int) (List.length x.2.2.2.2.2:Int) (fun(R4:Bool)=>
           bif (!R4) then
            bH false
           else
            eD N x.2.2.2.2.1 (0:Int) (List.length x.2.2.2.2.2:Int) (fun(ph:Bool)=>
             bif (!ph) then
              bH false
             else
              eD N x.2.2.2.1 (0:Int) (100000:Int) (fun(R5:Bool)=>
               bif (!R5) then
                bH false
               else
                gL N ab x cG (List.length cG:Int) (i:Int) x.2.2.2.2.2 (List.length x.2.2.2.2.2:Int) N next bH (0:Int))))))) (
    pg) cG 0:=by
 exact b7 (f:=fun n i=>mQ N ab cG (List.length cG:Int) n pg bH i) (l:=cG) (fun n i h=>by
  simp only[mQ,Dg]
  rw[decide_eq_true (show(i:Int)<(List.length cG:Int) by omega)]
  simp only[cond_true,an h,Int.toNat_natCast,ai _ i h]) (fun n=>by
  simp only[mQ,Dg]
  rw[decide_eq_false (by omega)]
  simp only[cond_false]) hl cG 0 n rfl (by omega) hn
theorem aeC {N:Nat} {Nf:(List QJ)} {eQ:QJ} {EM:(List QJ)} {EN:Int} {EO:Int} {gE:(List Int)} {pj:Option aa} {ll:Bool→Option aa} (hl:(List.length gE)≤maxLen) {n:Nat} (hn:(List.length gE)<n):l9 N Nf eQ EM EN EO gE (List.length gE:Int) n pj ll (0:Int)=
  kF (fun(i:Nat) (x:Int) (next:Option aa)=>
    eD N x (1:Int) (99:Int) (fun(R7:Bool)=>
     bif (!R7) then
      ll false
     else
      bif (decide ((i:Int)>(0:Int))) then
       bif (aN (IntKind.wrap .i64 ((i:Int) - (1:Int))) (List.length eQ.2.2)) then
        bif (decide (x≤(List.getD eQ.2.2 (Int.toNat (IntKind.wrap .i64 ((i:Int) - (1:Int)))) (0:Int)))) then
         ll false
        else
         next
       else none
      else
       next)) (
    pj) gE 0:=by
 exact b7 (f:=fun n i=>l9 N Nf eQ EM EN EO gE (List.length gE:Int) n pj ll i) (l:=gE) (fun n i h=>by
  simp only[l9]
  rw[decide_eq_true (show(i:Int)<(List.length gE:Int) by omega)]
  simp only[cond_true,an h,Int.toNat_natCast,ai _ i h]) (fun n=>by
  simp only[l9]
  rw[decide_eq_false (by omega)]
  simp only[cond_false]) hl gE 0 n rfl (by omega) hn
theorem aeD {N:Nat} {ab:(List QJ)} {eh:(List QJ)} {pn:Option aa} {dv:Bool→Option aa} (hl:(List.length eh)≤maxLen) {n:Nat} (hn:(List.length eh)<n):ry N ab eh (List.length eh:Int) n pn dv (0:Int)=
  kF (fun(i:Nat) (x:QJ) (next:Option aa)=>
    eD N x.1 (1:Int) (99:Int) (fun(adM:Bool)=>
     bif (!adM) then
      dv false
     else
      bif (decide ((i:Int)>(0:Int))) then
       bif (aN (IntKind.wrap .i64 ((i:Int) - (1:Int))) (List.length ab)) then
        bif (decide (x.1≤(List.getD ab (Int.toNat (IntKind.wrap .i64 ((i:Int) - (1:Int)))) b9).1)) then
         dv false
        else
         eD N x.2.1 (1:Int) (99:Int) (fun(adN:Bool)=>
          bif (!adN) then
           dv false
          else
           l9 N ab x eh (List.length eh:Int) (i:Int) x.2.2 (List.length x.2.2:Int) N next dv (0:Int))
       else none
      else
       eD N x.2.1 (1:Int) (99:Int) (fun(rz:Bool)=>
        bif (!rz) then
         dv false
        else
         l9 N ab x eh (List.length eh:Int) (i:Int) x.2.2 (List.length x.2.2:Int) N next dv (0:Int)))) (
    pn) eh 0:=by
 exact b7 (f:=fun n i=>ry N ab eh (List.length eh:Int) n pn dv i) (l:=eh) (fun n i h=>by
  simp only[ry,IJ]
  rw[decide_eq_true (show(i:Int)<(List.length eh:Int) by omega)]
  simp only[cond_true,an h,Int.toNat_natCast,ai _ i h]) (fun n=>by
  simp only[ry,IJ]
  rw[decide_eq_false (by omega)]
  simp only[cond_false]) hl eh 0 n rfl (by omega) hn
theorem HC {ab:(List Int)} {aj:Int} {kM:Option aa} {fh:Int→Option aa} (hl:(List.length ab)≤maxLen) {n:Nat} (hn:(List.length ab)<n):po ab aj (List.length ab:Int) n kM fh (0:Int)=
  kF (fun(i:Nat) (x:Int) (next:Option aa)=>
    bif (aj==x) then
     fh (i:Int)
    else
     next) (
    kM) ab 0:=by
 exact b7 (f:=fun n i=>po ab aj (List.length ab:Int) n kM fh i) (l:=ab) (fun n i h=>by
  simp only[po]
  rw[decide_eq_true (show(i:Int)<(List.length ab:Int) by omega)]
  simp only[cond_true,an h,Int.toNat_natCast,ai _ i h]) (fun n=>by
  simp only[po]
  rw[decide_eq_false (by omega)]
  simp only[cond_false]) hl ab 0 n rfl (by omega) hn
theorem aaj {N:Nat} {Hz:(List Int)} {iV:(List QT)} {n7:Option aa} {n9:Bool→Option aa} (hl:(List.length iV)≤maxLen) {n:Nat} (hn:(List.length iV)<n):pq N Hz iV (List.length iV:Int) n n7 n9 (0:Int)=
  kF (fun(i:Nat) (x:QT) (next:Option aa)=>
    I78 N Hz x.1 (fun(R9:Int)=>
     bif (R9 != (1:Int)) then
      n9 false
     else
      next)) (
    n7) iV 0:=by
 exact b7 (f:=fun n i=>pq N Hz iV (List.length iV:Int) n n7 n9 i) (l:=iV) (fun n i h=>by
  simp only[pq]
  rw[decide_eq_true (show(i:Int)<(List.length iV:Int) by omega)]
  simp only[cond_true,an h,Int.toNat_natCast,ai _ i h]) (fun n=>by
  simp only[pq]
  rw[decide_eq_false (by omega)]
  simp only[cond_false]) hl iV 0 n rfl (by omega) hn
theorem aeE {N:Nat} {ab:(List QT)} {eR:(List a7)} {cS:(List Int)→Option aa} {fi:Bool→Option aa} {fU:(List Int)} (hl:(List.length eR)≤maxLen) {n:Nat} (hn:(List.length eR)<n):uK N ab eR (List.length eR:Int) n cS fi fU (0:Int)=
  bR (fun(i:Nat) (x:a7) (fU:(List Int)) (next:(List Int)→Option aa)=>
    I77 N ab x.1 x.2 (fun(kr:Bool)=>
     bif (!kr) then
      fi false
     else
      bif (decide ((List.length fU+List.length [x.1,x.2])*1≤4398046511104)) then
       next (fU++[x.1,x.2])
      else none)) (fun(fU:(List Int))=>
    cS fU) eR 0 fU:=by
 exact ck (f:=fun n fU i=>uK N ab eR (List.length eR:Int) n cS fi fU i) (l:=eR) (fun n i fU h=>by
  simp only[uK]
  rw[decide_eq_true (show(i:Int)<(List.length eR:Int) by omega)]
  simp only[cond_true,an h,Int.toNat_natCast,ai _ i h]) (fun n fU=>by
  simp only[uK]
  rw[decide_eq_false (by omega)]
  simp only[cond_false]) hl eR 0 n fU rfl (by omega) hn
theorem aeF {N:Nat} {ab:(List QJ)} {aj:Int} {dF:Option aa} {eP:Int→Option aa} (hl:(List.length ab)≤maxLen) {n:Nat} (hn:(List.length ab)<n):uL N ab aj (List.length ab:Int) n dF eP (0:Int)=
  kF (fun(i:Nat) (x:QJ) (next:Option aa)=>
    I81 N x aj (fun(l8:Bool)=>
     bif l8 then
      eP (i:Int)
     else
      next)) (
    dF) ab 0:=by
 exact b7 (f:=fun n i=>uL N ab aj (List.length ab:Int) n dF eP i) (l:=ab) (fun n i h=>by
  simp only[uL]
  rw[decide_eq_true (show(i:Int)<(List.length ab:Int) by omega)]
  simp only[cond_true,an h,Int.toNat_natCast,ai _ i h]) (fun n=>by
  simp only[uL]
  rw[decide_eq_false (by omega)]
  simp only[cond_false]) hl ab 0 n rfl (by omega) hn
theorem aeG {N:Nat} {ab:(List QT)} {Ng:QJ} {mf:(List Int)} {iW:Option aa} {jX:Bool→Option aa} (hl:(List.length mf)≤maxLen) {n:Nat} (hn:(List.length mf)<n):uM N ab Ng mf (List.length mf:Int) n iW jX (0:Int)=
  kF (fun(i:Nat) (x:Int) (next:Option aa)=>
    Nb N ab x (fun(kr:Int)=>
     bif (decide (kr<(0:Int))) then
      jX false
     else
      bif (aN kr (List.length ab)) then
       bif ((List.getD ab (Int.toNat kr) au).2.1==Ng.2.1) then
        jX false
       else
        S82 N Ng.2.2 x (fun(rz:Bool)=>
         bif rz then
          jX false
         else
          next)
      else none)) (
    iW) mf 0:=by
 exact b7 (f:=fun n i=>uM N ab Ng mf (List.length mf:Int) n iW jX i) (l:=mf) (fun n i h=>by
  simp only[uM]
  rw[decide_eq_true (show(i:Int)<(List.length mf:Int) by omega)]
  simp only[cond_true,an h,Int.toNat_natCast,ai _ i h]) (fun n=>by
  simp only[uM]
  rw[decide_eq_false (by omega)]
  simp only[cond_false]) hl mf 0 n rfl (by omega) hn
theorem aeH {N:Nat} {Au:(List QT)} {ju:(List QJ)} {jM:(List a7)} {iD:(List Int)} {mg:(List Int)} {sB:Option aa} {jY:Bool→Option aa} (hl:(List.length mg)≤maxLen) {n:Nat} (hn:(List.length mg)<n):uN N Au ju jM iD mg (List.length mg:Int) n sB jY (0:Int)=
  kF (fun(i:Nat) (x:Int) (next:Option aa)=>
    S80 N ju x (fun(uO:Int)=>
     bif (decide (uO<(0:Int))) then
      jY false
     else
      bif (decide ((0:Int)≤(0:Int))&&decide ((0:Int)≤(i:Int))&&decide ((i:Int)≤(List.length iD:Int))) then
       S82 N (List.drop (Int.toNat (0:Int)) (List.take (Int.toNat (i:Int)) iD)) x (fun(Sa:Bool)=>
        bif Sa then
         jY false
        else
         bif (aN uO (List.length ju)) then
          bif (aN (i:Int) (List.length jM)) then
           I83 N Au (List.getD ju (Int.toNat uO) b9) (List.getD jM (Int.toNat (i:Int)) cA) (fun(Sb:Bool)=>
            bif (!Sb) then
             jY false
            else
             next)
          else none
         else none)
      else none)) (
    sB) mg 0:=by
 exact b7 (f:=fun n i=>uN N Au ju jM iD mg (List.length mg:Int) n sB jY i) (l:=mg) (fun n i h=>by
  simp only[uN]
  rw[decide_eq_true (show(i:Int)<(List.length mg:Int) by omega)]
  simp only[cond_true,an h,Int.toNat_natCast,ai _ i h]) (fun n=>by
  simp only[uN]
  rw[decide_eq_false (by omega)]
  simp only[cond_false]) hl mg 0 n rfl (by omega) hn
theorem aak {ko:(List QT)} {Aw:Int→Option aa} {ao:Int} (hl:(List.length ko)≤maxLen) {n:Nat} (hn:(List.length ko)<n):pr ko (List.length ko:Int) n Aw ao (0:Int)=
  bR (fun(i:Nat) (x:QT) (ao:Int) (next:Int→Option aa)=>
    next (IntKind.wrap .i64 (ao+x.2.2.1))) (fun(ao:Int)=>
    Aw ao) ko 0 ao:=by
 exact ck (f:=fun n ao i=>pr ko (List.length ko:Int) n Aw ao i) (l:=ko) (fun n i ao h=>by
  simp only[pr]
  rw[decide_eq_true (show(i:Int)<(List.length ko:Int) by omega)]
  simp only[cond_true,an h,Int.toNat_natCast,ai _ i h]) (fun n ao=>by
  simp only[pr]
  rw[decide_eq_false (by omega)]
  simp only[cond_false]) hl ko 0 n ao rfl (by omega) hn
theorem aeI {N:Nat} {ij:QC} {iX:(List QB)} {pv:Option aa} {ln:Bool→Option aa} (hl:(List.length iX)≤maxLen) {n:Nat} (hn:(List.length iX)<n):rA N ij iX (List.length iX:Int) n pv ln (0:Int)=
  kF (fun(i:Nat) (x:QB) (next:Option aa)=>
    bif (!((decide ((x.1:Int)=(0:Int)))&&((decide ((x.2.1:Int)=(0:Int)))&&(decide ((x.2.2:Int)=(0:Int)))))) then
     Nh N x (fun(Sd:Bool)=>
      bif (!Sd) then
       ln false
      else
       bif (aN (i:Int) (List.length ij.2.2.2.1)) then
        bif (x.1 != (List.getD ij.2.2.2.1 (Int.toNat (i:Int)) (0:Int))) then
         ln false
        else
         next
       else none)
    else
     next) (
    pv) iX 0:=by
 exact b7 (f:=fun n i=>rA N ij iX (List.length iX:Int) n pv ln i) (l:=iX) (fun n i h=>by
  simp only[rA]
  rw[decide_eq_true (show(i:Int)<(List.length iX:Int) by omega)]
  simp only[cond_true,an h,Int.toNat_natCast,ai _ i h]) (fun n=>by
  simp only[rA]
  rw[decide_eq_false (by omega)]
  simp only[cond_false]) hl iX 0 n rfl (by omega) hn
theorem aeJ {ZQ:Int} {ajM:Int} {ajN:QC} {ajO:QC} {xm:QC} {mR:Int→Option aa} (hl:(List.length xm.1)≤maxLen) {n:Nat} (hn:(List.length xm.1)<n):rB ZQ ajM ajN ajO xm n mR (0:Int)=
  kF (fun(i:Nat) (x:_) (next:Option aa)=>
    bif (decide (x.1<ZQ)) then
     next
    else
     mR (i:Int)) (
    mR (List.length xm.1:Int)) xm.1 0:=by
 exact b7 (f:=fun n i=>rB ZQ ajM ajN ajO xm n mR i) (l:=xm.1) (fun n i h=>by
  simp only[rB]
  rw[decide_eq_true (show(i:Int)<(List.length xm.1:Int) by omega)]
  simp only[cond_true,an h,Int.toNat_natCast,ai _ i h]) (fun n=>by
  simp only[rB]
  rw[decide_eq_false (by omega)]
  simp only[cond_false]) hl xm.1 0 n rfl (by omega) hn
theorem aal {N:Nat} {ab:(List QJ)} {aj:Int} {dF:Option aa} {eP:Int→Option aa} (hl:(List.length ab)≤maxLen) {n:Nat} (hn:(List.length ab)<n):pw N ab aj (List.length ab:Int) n dF eP (0:Int)=
  kF (fun(i:Nat) (x:QJ) (next:Option aa)=>
    ajP N x aj (fun(l8:Bool)=>
     bif l8 then
      eP (i:Int)
     else
      next)) (
    dF) ab 0:=by
 exact b7 (f:=fun n i=>pw N ab aj (List.length ab:Int) n dF eP i) (l:=ab) (fun n i h=>by
  simp only[pw]
  rw[decide_eq_true (show(i:Int)<(List.length ab:Int) by omega)]
  simp only[cond_true,an h,Int.toNat_natCast,ai _ i h]) (fun n=>by
  simp only[pw]
  rw[decide_eq_false (by omega)]
  simp only[cond_false]) hl ab 0 n rfl (by omega) hn
theorem aeK {ju:Int} {jM:Int} {iD:QC} {ajR:QC} {xn:QC} {eH:Int→Option aa} (hl:(List.length xn.2.1)≤maxLen) {n:Nat} (hn:(List.length xn.2.1)<n):rC ju jM iD ajR xn n eH (0:Int)=
  kF (fun(i:Nat) (x:_) (next:Option aa)=>
    bif (decide (x.1<ju)) then
     next
    else
     eH (i:Int)) (
    eH (List.length xn.2.1:Int)) xn.2.1 0:=by
 exact b7 (f:=fun n i=>rC ju jM iD ajR xn n eH i) (l:=xn.2.1) (fun n i h=>by
  simp only[rC]
  rw[decide_eq_true (show(i:Int)<(List.length xn.2.1:Int) by omega)]
  simp only[cond_true,an h,Int.toNat_natCast,ai _ i h]) (fun n=>by
  simp only[rC]
  rw[decide_eq_false (by omega)]
  simp only[cond_false]) hl xn.2.1 0 n rfl (by omega) hn
theorem aam {bF:Int} {iC:(List Int)} {ba:Option aa} {Ax:Int→Option aa} (hl:(List.length iC)≤maxLen) {n:Nat} (hn:(List.length iC)<n):py bF iC (List.length iC:Int) n ba Ax (0:Int)=
  kF (fun(i:Nat) (x:Int) (next:Option aa)=>
    bif (x != bF) then
     Ax x
    else
     next) (
    ba) iC 0:=by
 exact b7 (f:=fun n i=>py bF iC (List.length iC:Int) n ba Ax i) (l:=iC) (fun n i h=>by
  simp only[py]
  rw[decide_eq_true (show(i:Int)<(List.length iC:Int) by omega)]
  simp only[cond_true,an h,Int.toNat_natCast,ai _ i h]) (fun n=>by
  simp only[py]
  rw[decide_eq_false (by omega)]
  simp only[cond_false]) hl iC 0 n rfl (by omega) hn
theorem aan {gN:(List QT)} {Ay:(List Int)→Option aa} {cI:(List Int)} (hl:(List.length gN)≤maxLen) {n:Nat} (hn:(List.length gN)<n):pA gN (List.length gN:Int) n Ay cI (0:Int)=
  bR (fun(i:Nat) (x:QT) (cI:(List Int)) (next:(List Int)→Option aa)=>
    bif (decide ((List.length cI+List.length [x.1])*1≤4398046511104)) then
     next (cI++[x.1])
    else none) (fun(cI:(List Int))=>
    Ay cI) gN 0 cI:=by
 exact ck (f:=fun n cI i=>pA gN (List.length gN:Int) n Ay cI i) (l:=gN) (fun n i cI h=>by
  simp only[pA]
  rw[decide_eq_true (show(i:Int)<(List.length gN:Int) by omega)]
  simp only[cond_true,an h,Int.toNat_natCast,ai _ i h]) (fun n cI=>by
  simp only[pA]
  rw[decide_eq_false (by omega)]
  simp only[cond_false]) hl gN 0 n cI rfl (by omega) hn
theorem SD {ik:(List (List Int))} {ob:(List Int)→Option aa} {kX:(List Int)} (hl:(List.length ik)≤maxLen) {n:Nat} (hn:(List.length ik)<n):ku ik (List.length ik:Int) n ob kX (0:Int)=
  bR (fun(i:Nat) (x:(List Int)) (kX:(List Int)) (next:(List Int)→Option aa)=>
    bif (decide ((List.length kX+List.length x)*1≤4398046511104)) then
     next (kX++x)
    else none) (fun(kX:(List Int))=>
    ob kX) ik 0 kX:=by
 exact ck (f:=fun n kX i=>ku ik (List.length ik:Int) n ob kX i) (l:=ik) (fun n i kX h=>by
  simp only[ku]
  rw[decide_eq_true (show(i:Int)<(List.length ik:Int) by omega)]
  simp only[cond_true,an h,Int.toNat_natCast,ai _ i h]) (fun n kX=>by
  simp only[ku]
  rw[decide_eq_false (by omega)]
  simp only[cond_false]) hl ik 0 n kX rfl (by omega) hn
theorem aao {ab:(List (List Int))} {mi:(List (List Int))} {bI:Int→Option aa} {ao:Int} (hl:(List.length mi)≤maxLen) {n:Nat} (hn:(List.length mi)<n):pB ab mi (List.length mi:Int) n bI ao (0:Int)=
  bR (fun(i:Nat) (x:(List Int)) (ao:Int) (next:Int→Option aa)=>
    bif (decide ((IntKind.wrap .i64 (ao+(List.length x:Int)))<(0:Int))) then
     none
    else
     next (IntKind.wrap .i64 (ao+(List.length x:Int)))) (fun(ao:Int)=>
    bI ao) mi 0 ao:=by
 exact ck (f:=fun n ao i=>pB ab mi (List.length mi:Int) n bI ao i) (l:=mi) (fun n i ao h=>by
  simp only[pB]
  rw[decide_eq_true (show(i:Int)<(List.length mi:Int) by omega)]
  simp only[cond_true,an h,Int.toNat_natCast,ai _ i h]) (fun n ao=>by
  simp only[pB]
  rw[decide_eq_false (by omega)]
  simp only[cond_false]) hl mi 0 n ao rfl (by omega) hn
theorem aeL {gm:(List QB)} {bI:(List Int)→Option aa} {bF:(List Int)} (hl:(List.length gm)≤maxLen) {n:Nat} (hn:(List.length gm)<n):rE gm (List.length gm:Int) n bI bF (0:Int)=
  bR (fun(i:Nat) (x:QB) (bF:(List Int)) (next:(List Int)→Option aa)=>
    bif ((decide ((x.1:Int)=(0:Int)))&&((decide ((x.2.1:Int)=(0:Int)))&&(decide ((x.2.2:Int)=(0:Int))))) then
     bif (decide ((List.length bF+List.length [(i:Int)])*1≤4398046511104)) then
      next (bF++[(i:Int)])
     else none
    else
     next bF) (fun(bF:(List Int))=>
    bI bF) gm 0 bF:=by
 exact ck (f:=fun n bF i=>rE gm (List.length gm:Int) n bI bF i) (l:=gm) (fun n i bF h=>by
  simp only[rE]
  rw[decide_eq_true (show(i:Int)<(List.length gm:Int) by omega)]
  simp only[cond_true,an h,Int.toNat_natCast,ai _ i h]) (fun n bF=>by
  simp only[rE]
  rw[decide_eq_false (by omega)]
  simp only[cond_false]) hl gm 0 n bF rfl (by omega) hn
theorem aap {N:Nat} {ab:(List QB)} {gm:(List QB)} {il:Option aa} {pD:Bool→Option aa} (hl:(List.length gm)≤maxLen) {n:Nat} (hn:(List.length gm)<n):mU N ab gm (List.length gm:Int) n il pD (0:Int)=
  kF (fun(i:Nat) (x:QB) (next:Option aa)=>
    Nh N x (fun(l8:Bool)=>
     bif (!l8) then
      pD false
     else
      bif (decide ((i:Int)>(0:Int))) then
       bif (aN (IntKind.wrap .i64 ((i:Int) - (1:Int))) (List.length ab)) then
        bif (decide (x.1≤(List.getD ab (Int.toNat (IntKind.wrap .i64 ((i:Int) - (1:Int)))) fp).1)) then
         pD false
        else
         next
       else none
      else
       next)) (
    il) gm 0:=by
 exact b7 (f:=fun n i=>mU N ab gm (List.length gm:Int) n il pD i) (l:=gm) (fun n i h=>by
  simp only[mU]
  rw[decide_eq_true (show(i:Int)<(List.length gm:Int) by omega)]
  simp only[cond_true,an h,Int.toNat_natCast,ai _ i h]) (fun n=>by
  simp only[mU]
  rw[decide_eq_false (by omega)]
  simp only[cond_false]) hl gm 0 n rfl (by omega) hn
theorem aaq {N:Nat} {aj:Int} {bP:(List QB)} {eH:Int→Option aa} {ak:Int} (hl:(List.length bP)≤maxLen) {n:Nat} (hn:(List.length bP)<n):mV N aj bP (List.length bP:Int) n eH ak (0:Int)=
  bR (fun(i:Nat) (x:QB) (ak:Int) (next:Int→Option aa)=>
    ZX N x (fun(adX:Int)=>
     bif (adX==aj) then
      next (IntKind.wrap .i64 (ak+(1:Int)))
     else
      next ak)) (fun(ak:Int)=>
    eH ak) bP 0 ak:=by
 exact ck (f:=fun n ak i=>mV N aj bP (List.length bP:Int) n eH ak i) (l:=bP) (fun n i ak h=>by
  simp only[mV]
  rw[decide_eq_true (show(i:Int)<(List.length bP:Int) by omega)]
  simp only[cond_true,an h,Int.toNat_natCast,ai _ i h]) (fun n ak=>by
  simp only[mV]
  rw[decide_eq_false (by omega)]
  simp only[cond_false]) hl bP 0 n ak rfl (by omega) hn
theorem AD {aj:Int} {bP:(List QB)} {ig:Int→Option aa} {ak:Int} (hl:(List.length bP)≤maxLen) {n:Nat} (hn:(List.length bP)<n):lp aj bP (List.length bP:Int) n ig ak (0:Int)=
  bR (fun(i:Nat) (x:QB) (ak:Int) (next:Int→Option aa)=>
    bif (aj==(1:Int)) then
     next (IntKind.wrap .i64 (ak+x.2.1))
    else
     bif (aj==(2:Int)) then
      next (IntKind.wrap .i64 (ak+x.2.2))
     else
      next ak) (fun(ak:Int)=>
    ig ak) bP 0 ak:=by
 exact ck (f:=fun n ak i=>lp aj bP (List.length bP:Int) n ig ak i) (l:=bP) (fun n i ak h=>by
  simp only[lp]
  rw[decide_eq_true (show(i:Int)<(List.length bP:Int) by omega)]
  simp only[cond_true,an h,Int.toNat_natCast,ai _ i h]) (fun n ak=>by
  simp only[lp]
  rw[decide_eq_false (by omega)]
  simp only[cond_false]) hl bP 0 n ak rfl (by omega) hn
theorem aeM {N:Nat} {ij:QC} {ZV:QC} {fj:(List a7)} {sD:QC→Option aa} {sE:QC→Bool→Option aa} {gO:QC} (hl:(List.length fj)≤maxLen) {n:Nat} (hn:(List.length fj)<n):uQ N ij ZV fj (List.length fj:Int) n sD sE gO (0:Int)=
  bR (fun(i:Nat) (x:a7) (gO:QC) (next:QC→Option aa)=>
    bif (aN (i:Int) (List.length ij.2.2.2.2.1)) then
     ZY N [(List.getD ij.2.2.2.2.1 (Int.toNat (i:Int)) fp)] (fun(EW:Int)=>
      ZZ N gO.1 x.1 x.2 EW (List.getD ij.2.2.2.2.1 (Int.toNat (i:Int)) fp).2.1 (List.getD ij.2.2.2.2.1 (Int.toNat (i:Int)) fp).2.2 (fun(EX:(List QT)) (EY:Bool)=>
       bif (!EY) then
        IE N ij (fun(EZ:QC)=>
         sE EZ false)
       else
        bif (aN (i:Int) (List.length ij.2.2.2.1)) then
         Se N gO.2.1 (List.getD ij.2.2.2.1 (Int.toNat (i:Int)) (0:Int)) (fun(cT:Int)=>
          bif (aN cT (List.length gO.2.1)) then
           bif (decide ((List.length (List.getD gO.2.1 (Int.toNat cT) b9).2.2+List.length [x.1,x.2])*1≤4398046511104)) then
            Z0 N ((List.getD gO.2.1 (Int.toNat cT) b9).2.2++[x.1,x.2]) (fun(E0:(List Int))=>
             ad4 N E0 (fun(E3:(List Int))=>
              bif (aN cT (List.length gO.2.1)) then
               bif (Nat.beq (Int.toNat cT) (Int.toNat cT)) then
                next (EX,((List.set gO.2.1 (Int.toNat cT) ((List.getD gO.2.1 (Int.toNat cT) b9).1,((List.getD gO.2.1 (Int.toNat cT) b9).2.1,E3))),gO.2.2))
               else none
              else none))
           else none
          else none)
        else none))
    else none) (fun(gO:QC)=>
    sD gO) fj 0 gO:=by
 exact ck (f:=fun n gO i=>uQ N ij ZV fj (List.length fj:Int) n sD sE gO i) (l:=fj) (fun n i gO h=>by
  simp only[uQ]
  rw[decide_eq_true (show(i:Int)<(List.length fj:Int) by omega)]
  simp only[cond_true,an h,Int.toNat_natCast,ai _ i h]) (fun n gO=>by
  simp only[uQ]
  rw[decide_eq_false (by omega)]
  simp only[cond_false]) hl fj 0 n gO rfl (by omega) hn
theorem aeN {N:Nat} {ab:(List QT)} {jO:Int→Option aa} {jP:Int→Option aa} {aj:Int} (hl:(List.length ab)≤maxLen) {n:Nat} (hn:(List.length ab)<n):uR N ab n jO jP aj (0:Int)=
  bR (fun(i:Nat) (x:QT) (aj:Int) (next:Int→Option aa)=>
    Z1 N x aj (fun(gv:Int)=>
     bif (decide (gv<(0:Int))) then
      jP (-1:Int)
     else
      next gv)) (fun(aj:Int)=>
    jO aj) ab 0 aj:=by
 exact ck (f:=fun n aj i=>uR N ab n jO jP aj i) (l:=ab) (fun n i aj h=>by
  simp only[uR]
  rw[decide_eq_true (show(i:Int)<(List.length ab:Int) by omega)]
  simp only[cond_true,an h,Int.toNat_natCast,ai _ i h]) (fun n aj=>by
  simp only[uR]
  rw[decide_eq_false (by omega)]
  simp only[cond_false]) hl ab 0 n aj rfl (by omega) hn
theorem aeO {N:Nat} {ab:(List QJ)} {jO:Int→Option aa} {jP:Int→Option aa} {aj:Int} (hl:(List.length ab)≤maxLen) {n:Nat} (hn:(List.length ab)<n):uS N ab n jO jP aj (0:Int)=
  bR (fun(i:Nat) (x:QJ) (aj:Int) (next:Int→Option aa)=>
    Z2 N x aj (fun(gv:Int)=>
     bif (decide (gv<(0:Int))) then
      jP (-1:Int)
     else
      next gv)) (fun(aj:Int)=>
    jO aj) ab 0 aj:=by
 exact ck (f:=fun n aj i=>uS N ab n jO jP aj i) (l:=ab) (fun n i aj h=>by
  simp only[uS]
  rw[decide_eq_true (show(i:Int)<(List.length ab:Int) by omega)]
  simp only[cond_true,an h,Int.toNat_natCast,ai _ i h]) (fun n aj=>by
  simp only[uS]
  rw[decide_eq_false (by omega)]
  simp only[cond_false]) hl ab 0 n aj rfl (by omega) hn
theorem aeP {ab:(List Int)} {eS:(List Int)→Option aa} {ao:(List Int)} (hl:(List.length ab)≤maxLen) {n:Nat} (hn:(List.length ab)<n):uT ab n eS ao (0:Int)=
  bR (fun(i:Nat) (x:Int) (ao:(List Int)) (next:(List Int)→Option aa)=>
    bif (aN (i:Int) (List.length ao)) then
     next (List.set ao (Int.toNat (i:Int)) x)
    else none) (fun(ao:(List Int))=>
    eS ao) ab 0 ao:=by
 exact ck (f:=fun n ao i=>uT ab n eS ao i) (l:=ab) (fun n i ao h=>by
  simp only[uT]
  rw[decide_eq_true (show(i:Int)<(List.length ab:Int) by omega)]
  simp only[cond_true,an h,Int.toNat_natCast,ai _ i h]) (fun n ao=>by
  simp only[uT]
  rw[decide_eq_false (by omega)]
  simp only[cond_false]) hl ab 0 n ao rfl (by omega) hn
theorem aeQ {N:Nat} {ab:(List QT)} {ba:(List QT)→Option aa} {ao:(List QT)} (hl:(List.length ab)≤maxLen) {n:Nat} (hn:(List.length ab)<n):uU N ab n ba ao (0:Int)=
  bR (fun(i:Nat) (x:QT) (ao:(List QT)) (next:(List QT)→Option aa)=>
    Z3 N x (fun(iY:QT)=>
     bif (aN (i:Int) (List.length ao)) then
      next (List.set ao (Int.toNat (i:Int)) iY)
     else none)) (fun(ao:(List QT))=>
    ba ao) ab 0 ao:=by
 exact ck (f:=fun n ao i=>uU N ab n ba ao i) (l:=ab) (fun n i ao h=>by
  simp only[uU]
  rw[decide_eq_true (show(i:Int)<(List.length ab:Int) by omega)]
  simp only[cond_true,an h,Int.toNat_natCast,ai _ i h]) (fun n ao=>by
  simp only[uU]
  rw[decide_eq_false (by omega)]
  simp only[cond_false]) hl ab 0 n ao rfl (by omega) hn
theorem aeR {N:Nat} {ab:(List QJ)} {ba:(List QJ)→Option aa} {ao:(List QJ)} (hl:(List.length ab)≤maxLen) {n:Nat} (hn:(List.length ab)<n):uV N ab n ba ao (0:Int)=
  bR (fun(i:Nat) (x:QJ) (ao:(List QJ)) (next:(List QJ)→Option aa)=>
    Z4 N x (fun(iY:QJ)=>
     bif (aN (i:Int) (List.length ao)) then
      next (List.set ao (Int.toNat (i:Int)) iY)
     else none)) (fun(ao:(List QJ))=>
    ba ao) ab 0 ao:=by
 exact ck (f:=fun n ao i=>uV N ab n ba ao i) (l:=ab) (fun n i ao h=>by
  simp only[uV]
  rw[decide_eq_true (show(i:Int)<(List.length ab:Int) by omega)]
  simp only[cond_true,an h,Int.toNat_natCast,ai _ i h]) (fun n ao=>by
  simp only[uV]
  rw[decide_eq_false (by omega)]
  simp only[cond_false]) hl ab 0 n ao rfl (by omega) hn
theorem aeS {N:Nat} {ab:(List a7)} {ba:(List a7)→Option aa} {ao:(List a7)} (hl:(List.length ab)≤maxLen) {n:Nat} (hn:(List.length ab)<n):uW N ab n ba ao (0:Int)=
  bR (fun(i:Nat) (x:a7) (ao:(List a7)) (next:(List a7)→Option aa)=>
    Z5 N x (fun(iY:a7)=>
     bif (aN (i:Int) (List.length ao)) then
      next (List.set ao (Int.toNat (i:Int)) iY)
     else none)) (fun(ao:(List a7))=>
    ba ao) ab 0 ao:=by
 exact ck (f:=fun n ao i=>uW N ab n ba ao i) (l:=ab) (fun n i ao h=>by
  simp only[uW]
  rw[decide_eq_true (show(i:Int)<(List.length ab:Int) by omega)]
  simp only[cond_true,an h,Int.toNat_natCast,ai _ i h]) (fun n ao=>by
  simp only[uW]
  rw[decide_eq_false (by omega)]
  simp only[cond_false]) hl ab 0 n ao rfl (by omega) hn
theorem aeT {N:Nat} {ab:(List QB)} {ba:(List QB)→Option aa} {ao:(List QB)} (hl:(List.length ab)≤maxLen) {n:Nat} (hn:(List.length ab)<n):uX N ab n ba ao (0:Int)=
  bR (fun(i:Nat) (x:QB) (ao:(List QB)) (next:(List QB)→Option aa)=>
    Z6 N x (fun(iY:QB)=>
     bif (aN (i:Int) (List.length ao)) then
      next (List.set ao (Int.toNat (i:Int)) iY)
     else none)) (fun(ao:(List QB))=>
    ba ao) ab 0 ao:=by
 exact ck (f:=fun n ao i=>uX N ab n ba ao i) (l:=ab) (fun n i ao h=>by
  simp only[uX]
  rw[decide_eq_true (show(i:Int)<(List.length ab:Int) by omega)]
  simp only[cond_true,an h,Int.toNat_natCast,ai _ i h]) (fun n ao=>by
  simp only[uX]
  rw[decide_eq_false (by omega)]
  simp only[cond_false]) hl ab 0 n ao rfl (by omega) hn
theorem aar {N:Nat} {ab:(List QL)} {ba:(List QL)→Option aa} {ao:(List QL)} (hl:(List.length ab)≤maxLen) {n:Nat} (hn:(List.length ab)<n):pE N ab n ba ao (0:Int)=
  bR (fun(i:Nat) (x:QL) (ao:(List QL)) (next:(List QL)→Option aa)=>
    Z7 N x (fun(iY:QL)=>
     bif (aN (i:Int) (List.length ao)) then
      next (List.set ao (Int.toNat (i:Int)) iY)
     else none)) (fun(ao:(List QL))=>
    ba ao) ab 0 ao:=by
 exact ck (f:=fun n ao i=>pE N ab n ba ao i) (l:=ab) (fun n i ao h=>by
  simp only[pE]
  rw[decide_eq_true (show(i:Int)<(List.length ab:Int) by omega)]
  simp only[cond_true,an h,Int.toNat_natCast,ai _ i h]) (fun n ao=>by
  simp only[pE]
  rw[decide_eq_false (by omega)]
  simp only[cond_false]) hl ab 0 n ao rfl (by omega) hn
theorem aas {ab:(List QT)} {eS:(List QT)→Option aa} {ao:(List QT)} (hl:(List.length ab)≤maxLen) {n:Nat} (hn:(List.length ab)<n):pF ab n eS ao (0:Int)=
  bR (fun(i:Nat) (x:QT) (ao:(List QT)) (next:(List QT)→Option aa)=>
    bif (decide ((List.length ([]:(List Int))+List.length x.2.2.2.2.2)*1≤4398046511104)) then
     bif (decide ((List.length ao+List.length [(x.1,(x.2.1,(x.2.2.1,(x.2.2.2.1,(x.2.2.2.2.1,(([]:(List Int))++x.2.2.2.2.2))))))])*6≤4398046511104)) then
      next (ao++[(x.1,(x.2.1,(x.2.2.1,(x.2.2.2.1,(x.2.2.2.2.1,(([]:(List Int))++x.2.2.2.2.2))))))])
     else none
    else none) (fun(ao:(List QT))=>
    eS ao) ab 0 ao:=by
 exact ck (f:=fun n ao i=>pF ab n eS ao i) (l:=ab) (fun n i ao h=>by
  simp only[pF]
  rw[decide_eq_true (show(i:Int)<(List.length ab:Int) by omega)]
  simp only[cond_true,an h,Int.toNat_natCast,ai _ i h]) (fun n ao=>by
  simp only[pF]
  rw[decide_eq_false (by omega)]
  simp only[cond_false]) hl ab 0 n ao rfl (by omega) hn
theorem aat {ab:(List QJ)} {eS:(List QJ)→Option aa} {ao:(List QJ)} (hl:(List.length ab)≤maxLen) {n:Nat} (hn:(List.length ab)<n):pG ab n eS ao (0:Int)=
  bR (fun(i:Nat) (x:QJ) (ao:(List QJ)) (next:(List QJ)→Option aa)=>
    bif (decide ((List.length ([]:(List Int))+List.length x.2.2)*1≤4398046511104)) then
     bif (decide ((List.length ao+List.length [(x.1,(x.2.1,(([]:(List Int))++x.2.2)))])*3≤4398046511104)) then
      next (ao++[(x.1,(x.2.1,(([]:(List Int))++x.2.2)))])
     else none
    else none) (fun(ao:(List QJ))=>
    eS ao) ab 0 ao:=by
 exact ck (f:=fun n ao i=>pG ab n eS ao i) (l:=ab) (fun n i ao h=>by
  simp only[pG]
  rw[decide_eq_true (show(i:Int)<(List.length ab:Int) by omega)]
  simp only[cond_true,an h,Int.toNat_natCast,ai _ i h]) (fun n ao=>by
  simp only[pG]
  rw[decide_eq_false (by omega)]
  simp only[cond_false]) hl ab 0 n ao rfl (by omega) hn
theorem aau {ab:(List QT)} {aj:Int} {bq:Option aa} {bB:Int→Option aa} (hl:(List.length ab)≤maxLen) {n:Nat} (hn:(List.length ab)<n):pH ab aj n bq bB (0:Int)=
  kF (fun(i:Nat) (x:QT) (next:Option aa)=>
    bif (x.1==aj) then
     bB (i:Int)
    else
     next) (
    bq) ab 0:=by
 exact b7 (f:=fun n i=>pH ab aj n bq bB i) (l:=ab) (fun n i h=>by
  simp only[pH]
  rw[decide_eq_true (show(i:Int)<(List.length ab:Int) by omega)]
  simp only[cond_true,an h,Int.toNat_natCast,ai _ i h]) (fun n=>by
  simp only[pH]
  rw[decide_eq_false (by omega)]
  simp only[cond_false]) hl ab 0 n rfl (by omega) hn
theorem aav {ab:(List Int)} {aj:Int} {bI:Int→Option aa} {ak:Int} (hl:(List.length ab)≤maxLen) {n:Nat} (hn:(List.length ab)<n):mW ab aj n bI ak (0:Int)=
  bR (fun(i:Nat) (x:Int) (ak:Int) (next:Int→Option aa)=>
    bif (x==aj) then
     next (IntKind.wrap .i64 (ak+(1:Int)))
    else
     next ak) (fun(ak:Int)=>
    bI ak) ab 0 ak:=by
 exact ck (f:=fun n ak i=>mW ab aj n bI ak i) (l:=ab) (fun n i ak h=>by
  simp only[mW]
  rw[decide_eq_true (show(i:Int)<(List.length ab:Int) by omega)]
  simp only[cond_true,an h,Int.toNat_natCast,ai _ i h]) (fun n ak=>by
  simp only[mW]
  rw[decide_eq_false (by omega)]
  simp only[cond_false]) hl ab 0 n ak rfl (by omega) hn
theorem aaw {N:Nat} {xo:(List QT)} {HA:Int} {eQ:QT} {sF:Option aa} {jZ:Bool→Option aa} (hl:(List.length eQ.2.2.2.2.2)≤maxLen) {n:Nat} (hn:(List.length eQ.2.2.2.2.2)<n):iZ N xo HA eQ n sF jZ (0:Int)=
  kF (fun(i:Nat) (x:_) (next:Option aa)=>
    uY N xo x (fun(jQ:Int)=>
     bif (decide (jQ<(0:Int))) then
      jZ false
     else
      bif (jQ==HA) then
       jZ false
      else
       bif (aN jQ (List.length xo)) then
        bif (aN jQ (List.length xo)) then
         Sn N (List.getD xo (Int.toNat jQ) au).2.2.2.2.2 eQ.1 (fun(IZ:Int)=>
          Sn N eQ.2.2.2.2.2 (List.getD xo (Int.toNat jQ) au).1 (fun(I0:Int)=>
           bif (IZ != I0) then
            jZ false
           else
            next))
        else none
       else none)) (
    sF) eQ.2.2.2.2.2 0:=by
 exact b7 (f:=fun n i=>iZ N xo HA eQ n sF jZ i) (l:=eQ.2.2.2.2.2) (fun n i h=>by
  simp only[iZ]
  rw[decide_eq_true (show(i:Int)<(List.length eQ.2.2.2.2.2:Int) by omega)]
  simp only[cond_true,an h,Int.toNat_natCast,ai _ i h]) (fun n=>by
  simp only[iZ]
  rw[decide_eq_false (by omega)]
  simp only[cond_false]) hl eQ.2.2.2.2.2 0 n rfl (by omega) hn
theorem aax {N:Nat} {ab:(List QT)} {pI:Option aa} {cU:Bool→Option aa} (hl:(List.length ab)≤maxLen) {n:Nat} (hn:(List.length ab)<n):mX N ab n pI cU (0:Int)=
  kF (fun(i:Nat) (x:QT) (next:Option aa)=>
    gn N x.1 (1:Int) (99:Int) (fun(EV:Bool)=>
     bif (!EV) then
      cU false
     else
      gn N x.2.1 (1:Int) (99:Int) (fun(E5:Bool)=>
       bif (!E5) then
        cU false
       else
        gn N x.2.2.1 (0:Int) (List.length x.2.2.2.2.2:Int) (fun(Nk:Bool)=>
         bif (!Nk) then
          cU false
         else
          gn N x.2.2.2.2.1 (0:Int) (List.length x.2.2.2.2.2:Int) (fun(ad9:Bool)=>
           bif (!ad9) then
            cU false
           else
            gn N x.2.2.2.1 (0:Int) (100000:Int) (fun(ad':Bool)=>
             bif (!ad') then
              cU false
             else
              bif (decide ((List.length x.2.2.2.2.2:Int)>(20:Int))) then
               cU false
              else
               bif (decide ((i:Int)>(0:Int))) then
                bif (aN (IntKind.wrap .i64 ((i:Int) - (1:Int))) (List.length ab)) then
                 bif (decide ((List.getD ab (Int.toNat (IntKind.wrap .i64 ((i:Int) - (1:Int)))) au).1≥x.1)) then
                  cU false
                 else
                  iZ N ab (i:Int) x N next cU (0:Int)
                else none
               else
                iZ N ab (i:Int) x N next cU (0:Int))))))) (
    pI) ab 0:=by
 exact b7 (f:=fun n i=>mX N ab n pI cU i) (l:=ab) (fun n i h=>by
  simp only[mX]
  rw[decide_eq_true (show(i:Int)<(List.length ab:Int) by omega)]
  simp only[cond_true,an h,Int.toNat_natCast,ai _ i h]) (fun n=>by
  simp only[mX]
  rw[decide_eq_false (by omega)]
  simp only[cond_false]) hl ab 0 n rfl (by omega) hn
theorem Fg {mY:(List QT)} {od:(List Int)→Option aa} {kY:(List Int)} (hl:(List.length mY)≤maxLen) {n:Nat} (hn:(List.length mY)<n):ky mY n od kY (0:Int)=
  bR (fun(i:Nat) (x:QT) (kY:(List Int)) (next:(List Int)→Option aa)=>
    bif (decide ((List.length kY+List.length [x.1])*1≤4398046511104)) then
     next (kY++[x.1])
    else none) (fun(kY:(List Int))=>
    od kY) mY 0 kY:=by
 exact ck (f:=fun n kY i=>ky mY n od kY i) (l:=mY) (fun n i kY h=>by
  simp only[ky]
  rw[decide_eq_true (show(i:Int)<(List.length mY:Int) by omega)]
  simp only[cond_true,an h,Int.toNat_natCast,ai _ i h]) (fun n kY=>by
  simp only[ky]
  rw[decide_eq_false (by omega)]
  simp only[cond_false]) hl mY 0 n kY rfl (by omega) hn
theorem aay {N:Nat} {ab:(List QT)} {mZ:(List QT)→Option aa} {ao:(List QT)} (hl:(List.length ab)≤maxLen) {n:Nat} (hn:(List.length ab)<n):pK N ab n mZ ao (0:Int)=
  bR (fun(i:Nat) (x:QT) (ao:(List QT)) (next:(List QT)→Option aa)=>
    tu N ab (fun(aeb:Bool)=>
     bif aeb then
      pJ N ab ao (i:Int) N (fun(gP:Int)=>
       bif (decide ((0:Int)≤(0:Int))&&decide ((0:Int)≤gP)&&decide (gP≤(List.length ao:Int))) then
        bif (decide ((0:Int)≤gP)&&decide (gP≤(List.length ao:Int))&&decide ((List.length ao:Int)≤(List.length ao:Int))) then
         bif (decide ((List.length ([]:(List QT))+List.length (List.drop 0 (List.take (Int.toNat gP) ao)))*6≤4398046511104)) then
          bif (decide ((List.length (([]:(List QT))++(List.drop 0 (List.take (Int.toNat gP) ao)))+List.length [x])*6≤4398046511104)) then
           bif (decide ((List.length ((([]:(List QT))++(List.drop 0 (List.take (Int.toNat gP) ao)))++[x])+List.length (List.drop (Int.toNat gP) (List.take (Int.toNat (List.length ao:Int)) ao)))*6≤4398046511104)) then
            next (((([]:(List QT))++(List.drop 0 (List.take (Int.toNat gP) ao)))++[x])++(List.drop (Int.toNat gP) (List.take (Int.toNat (List.length ao:Int)) ao)))
           else none
          else none
         else none
        else none
       else none) (List.length ao:Int)
     else
      mZ ao)) (fun(ao:(List QT))=>
    mZ ao) ab 0 ao:=by
 exact ck (f:=fun n ao i=>pK N ab n mZ ao i) (l:=ab) (fun n i ao h=>by
  simp only[pK]
  rw[decide_eq_true (show(i:Int)<(List.length ab:Int) by omega)]
  simp only[cond_true,an h,Int.toNat_natCast,ai _ i h]) (fun n ao=>by
  simp only[pK]
  rw[decide_eq_false (by omega)]
  simp only[cond_false]) hl ab 0 n ao rfl (by omega) hn
theorem aaz {ab:(List Int)} {aj:Int} {bq:Option aa} {bB:Bool→Option aa} (hl:(List.length ab)≤maxLen) {n:Nat} (hn:(List.length ab)<n):pL ab aj n bq bB (0:Int)=
  kF (fun(i:Nat) (x:Int) (next:Option aa)=>
    bif (x==aj) then
     bB true
    else
     next) (
    bq) ab 0:=by
 exact b7 (f:=fun n i=>pL ab aj n bq bB i) (l:=ab) (fun n i h=>by
  simp only[pL]
  rw[decide_eq_true (show(i:Int)<(List.length ab:Int) by omega)]
  simp only[cond_true,an h,Int.toNat_natCast,ai _ i h]) (fun n=>by
  simp only[pL]
  rw[decide_eq_false (by omega)]
  simp only[cond_false]) hl ab 0 n rfl (by omega) hn
theorem aaA {N:Nat} {eG:(List QJ)} {ja:Int} {pN:Option aa} {lq:Bool→Option aa} (Hp:(aN ja (List.length eG))=true) (hl:(List.length (List.getD eG (Int.toNat ja) b9).2.2)≤maxLen) {n:Nat} (hn:(List.length (List.getD eG (Int.toNat ja) b9).2.2)<n):gX N eG ja n pN lq (0:Int)=
  kF (fun(i:Nat) (x:_) (next:Option aa)=>
    gn N x (1:Int) (99:Int) (fun(Su:Bool)=>
     bif (!Su) then
      lq false
     else
      bif (decide ((i:Int)>(0:Int))) then
       bif (aN (IntKind.wrap .i64 ((i:Int) - (1:Int))) (List.length (List.getD eG (Int.toNat ja) b9).2.2)) then
        bif (decide ((List.getD (List.getD eG (Int.toNat ja) b9).2.2 (Int.toNat (IntKind.wrap .i64 ((i:Int) - (1:Int)))) (0:Int))≥x)) then
         lq false
        else
         next
       else none
      else
       next)) (
    pN) ((List.getD eG (Int.toNat ja) b9).2.2) 0:=by
 exact b7 (f:=fun n i=>gX N eG ja n pN lq i) (l:=((List.getD eG (Int.toNat ja) b9).2.2)) (fun n i h=>by
  simp only[gX,Hp,cond_true]
  rw[decide_eq_true (show(i:Int)<(List.length ((List.getD eG (Int.toNat ja) b9).2.2):Int) by omega)]
  simp only[cond_true,an h,Int.toNat_natCast,ai _ i h]) (fun n=>by
  simp only[gX,Hp,cond_true]
  rw[decide_eq_false (by omega)]
  simp only[cond_false]) hl ((List.getD eG (Int.toNat ja) b9).2.2) 0 n rfl (by omega) hn
theorem aaB {N:Nat} {ab:(List QJ)} {pO:Option aa} {fk:Bool→Option aa} (hl:(List.length ab)≤maxLen) {n:Nat} (hn:(List.length ab)<n):m5 N ab n pO fk (0:Int)=
  kF (fun(i:Nat) (x:QJ) (next:Option aa)=>
    gn N x.1 (1:Int) (99:Int) (fun(Na:Bool)=>
     bif (!Na) then
      fk false
     else
      gn N x.2.1 (1:Int) (99:Int) (fun(E5:Bool)=>
       bif (!E5) then
        fk false
       else
        bif (decide ((i:Int)>(0:Int))) then
         bif (aN (IntKind.wrap .i64 ((i:Int) - (1:Int))) (List.length ab)) then
          bif (decide ((List.getD ab (Int.toNat (IntKind.wrap .i64 ((i:Int) - (1:Int)))) b9).1≥x.1)) then
           fk false
          else
           gX N ab (i:Int) N next fk (0:Int)
         else none
        else
         gX N ab (i:Int) N next fk (0:Int)))) (
    pO) ab 0:=by
 exact b7 (f:=fun n i=>m5 N ab n pO fk i) (l:=ab) (fun n i h=>by
  simp only[m5]
  rw[decide_eq_true (show(i:Int)<(List.length ab:Int) by omega)]
  simp only[cond_true,an h,Int.toNat_natCast,ai _ i h]) (fun n=>by
  simp only[m5]
  rw[decide_eq_false (by omega)]
  simp only[cond_false]) hl ab 0 n rfl (by omega) hn
theorem aaC {N:Nat} {ab:(List Int)} {ba:Int→Option aa} {ao:Int} (hl:(List.length ab)≤maxLen) {n:Nat} (hn:(List.length ab)<n):pP N ab n ba ao (0:Int)=
  bR (fun(i:Nat) (x:Int) (ao:Int) (next:Int→Option aa)=>
    aed N x (2147483647:Int) (fun(aee:Int)=>
     next (Int.tmod (IntKind.wrap .i64 ((IntKind.wrap .i64 ((IntKind.wrap .i64 (ao*(1000003:Int)))+aee))+(13:Int))) (2147483647:Int)))) (fun(ao:Int)=>
    ba ao) ab 0 ao:=by
 exact ck (f:=fun n ao i=>pP N ab n ba ao i) (l:=ab) (fun n i ao h=>by
  simp only[pP]
  rw[decide_eq_true (show(i:Int)<(List.length ab:Int) by omega)]
  simp only[cond_true,an h,Int.toNat_natCast,ai _ i h]) (fun n ao=>by
  simp only[pP]
  rw[decide_eq_false (by omega)]
  simp only[cond_false]) hl ab 0 n ao rfl (by omega) hn
theorem aaD {N:Nat} {ab:(List QL)} {cS:Option aa} {fi:Bool→Option aa} {ao:Int} (hl:(List.length ab)≤maxLen) {n:Nat} (hn:(List.length ab)<n):pQ N ab n cS fi ao (0:Int)=
  bR (fun(i:Nat) (x:QL) (ao:Int) (next:Int→Option aa)=>
    bif (decide ((List.length ab:Int)≤(200:Int))) then
     Sx N ao x (fun(gv:Int)=>
      bif (x.1 != (IntKind.wrap .i64 ((i:Int)+(1:Int)))) then
       fi false
      else
       gn N x.2.1 (1:Int) (9:Int) (fun(Nw:Bool)=>
        bif (!Nw) then
         fi false
        else
         gn N x.2.2.1 (0:Int) (99:Int) (fun(Nx:Bool)=>
          bif (!Nx) then
           fi false
          else
           bif (x.2.2.2 != gv) then
            fi false
           else
            next gv)))
    else
     cS) (fun(ao:Int)=>
    cS) ab 0 ao:=by
 exact ck (f:=fun n ao i=>pQ N ab n cS fi ao i) (l:=ab) (fun n i ao h=>by
  simp only[pQ]
  rw[decide_eq_true (show(i:Int)<(List.length ab:Int) by omega)]
  simp only[cond_true,an h,Int.toNat_natCast,ai _ i h]) (fun n ao=>by
  simp only[pQ]
  rw[decide_eq_false (by omega)]
  simp only[cond_false]) hl ab 0 n ao rfl (by omega) hn
theorem aaE {N:Nat} {ab:(List QT)} {ba:Int→Option aa} {ao:Int} (hl:(List.length ab)≤maxLen) {n:Nat} (hn:(List.length ab)<n):pR N ab n ba ao (0:Int)=
  bR (fun(i:Nat) (x:QT) (ao:Int) (next:Int→Option aa)=>
    tu N ab (fun(aeg:Bool)=>
     bif aeg then
      next (IntKind.wrap .i64 (ao+x.2.2.1))
     else
      ba ao)) (fun(ao:Int)=>
    ba ao) ab 0 ao:=by
 exact ck (f:=fun n ao i=>pR N ab n ba ao i) (l:=ab) (fun n i ao h=>by
  simp only[pR]
  rw[decide_eq_true (show(i:Int)<(List.length ab:Int) by omega)]
  simp only[cond_true,an h,Int.toNat_natCast,ai _ i h]) (fun n ao=>by
  simp only[pR]
  rw[decide_eq_false (by omega)]
  simp only[cond_false]) hl ab 0 n ao rfl (by omega) hn
theorem aaF {N:Nat} {ab:(List QT)} {aj:(List a7)} {cl:(List Int)→Option aa} {j0:Bool→Option aa} {ak:(List Int)} (hl:(List.length aj)≤maxLen) {n:Nat} (hn:(List.length aj)<n):pS N ab aj n cl j0 ak (0:Int)=
  bR (fun(i:Nat) (x:a7) (ak:(List Int)) (next:(List Int)→Option aa)=>
    Sp N ab x.1 x.2 (fun(Ny:Bool)=>
     bif (!Ny) then
      j0 false
     else
      uZ N ak x.1 (fun(E6:Bool)=>
       bif E6 then
        j0 false
       else
        uZ N ak x.2 (fun(Nz:Bool)=>
         bif Nz then
          j0 false
         else
          bif (decide ((List.length ak+List.length [x.1,x.2])*1≤4398046511104)) then
           next (ak++[x.1,x.2])
          else none)))) (fun(ak:(List Int))=>
    cl ak) aj 0 ak:=by
 exact ck (f:=fun n ak i=>pS N ab aj n cl j0 ak i) (l:=aj) (fun n i ak h=>by
  simp only[pS]
  rw[decide_eq_true (show(i:Int)<(List.length aj:Int) by omega)]
  simp only[cond_true,an h,Int.toNat_natCast,ai _ i h]) (fun n ak=>by
  simp only[pS]
  rw[decide_eq_false (by omega)]
  simp only[cond_false]) hl aj 0 n ak rfl (by omega) hn
theorem aaG {ab:(List QJ)} {aj:Int} {bq:Option aa} {bB:Int→Option aa} (hl:(List.length ab)≤maxLen) {n:Nat} (hn:(List.length ab)<n):pT ab aj n bq bB (0:Int)=
  kF (fun(i:Nat) (x:QJ) (next:Option aa)=>
    bif (x.1==aj) then
     bB (i:Int)
    else
     next) (
    bq) ab 0:=by
 exact b7 (f:=fun n i=>pT ab aj n bq bB i) (l:=ab) (fun n i h=>by
  simp only[pT]
  rw[decide_eq_true (show(i:Int)<(List.length ab:Int) by omega)]
  simp only[cond_true,an h,Int.toNat_natCast,ai _ i h]) (fun n=>by
  simp only[pT]
  rw[decide_eq_false (by omega)]
  simp only[cond_false]) hl ab 0 n rfl (by omega) hn
theorem aaH {N:Nat} {Au:(List QT)} {ju:(List QJ)} {jM:(List a7)} {iD:(List Int)} {jc:Option aa} {fm:Bool→Option aa} (hl:(List.length jM)≤maxLen) {n:Nat} (hn:(List.length jM)<n):pU N Au ju jM iD n jc fm (0:Int)=
  kF (fun(i:Nat) (x:a7) (next:Option aa)=>
    bif (aN (i:Int) (List.length iD)) then
     E7 N ju (List.getD iD (Int.toNat (i:Int)) (0:Int)) (fun(E9:Int)=>
      bif (decide (E9<(0:Int))) then
       fm false
      else
       bif (decide ((0:Int)≤(0:Int))&&decide ((0:Int)≤(i:Int))&&decide ((i:Int)≤(List.length iD:Int))) then
        bif (aN (i:Int) (List.length iD)) then
         uZ N (List.drop (Int.toNat (0:Int)) (List.take (Int.toNat (i:Int)) iD)) (List.getD iD (Int.toNat (i:Int)) (0:Int)) (fun(aeh:Bool)=>
          bif aeh then
           fm false
          else
           bif (aN E9 (List.length ju)) then
            Z' N Au (List.getD ju (Int.toNat E9) b9) x (fun(Sy:Bool)=>
             bif (!Sy) then
              fm false
             else
              next)
           else none)
        else none
       else none)
    else none) (
    jc) jM 0:=by
 exact b7 (f:=fun n i=>pU N Au ju jM iD n jc fm i) (l:=jM) (fun n i h=>by
  simp only[pU]
  rw[decide_eq_true (show(i:Int)<(List.length jM:Int) by omega)]
  simp only[cond_true,an h,Int.toNat_natCast,ai _ i h]) (fun n=>by
  simp only[pU]
  rw[decide_eq_false (by omega)]
  simp only[cond_false]) hl jM 0 n rfl (by omega) hn
theorem aaI {N:Nat} {lr:QC} {Fa:QB} {pV:Option aa} {lu:Bool→Option aa} (hl:(List.length lr.2.2.2.2.1)≤maxLen) {n:Nat} (hn:(List.length lr.2.2.2.2.1)<n):m7 N lr Fa n pV lu (0:Int)=
  kF (fun(i:Nat) (x:_) (next:Option aa)=>
    bif (!((decide ((x.1:Int)=Fa.1))&&((decide ((x.2.1:Int)=Fa.2.1))&&(decide ((x.2.2:Int)=Fa.2.2))))) then
     NA N x (fun(Sz:Bool)=>
      bif (!Sz) then
       lu false
      else
       bif (aN (i:Int) (List.length lr.2.2.2.1)) then
        bif (x.1 != (List.getD lr.2.2.2.1 (Int.toNat (i:Int)) (0:Int))) then
         lu false
        else
         next
       else none)
    else
     next) (
    pV) lr.2.2.2.2.1 0:=by
 exact b7 (f:=fun n i=>m7 N lr Fa n pV lu i) (l:=lr.2.2.2.2.1) (fun n i h=>by
  simp only[m7]
  rw[decide_eq_true (show(i:Int)<(List.length lr.2.2.2.2.1:Int) by omega)]
  simp only[cond_true,an h,Int.toNat_natCast,ai _ i h]) (fun n=>by
  simp only[m7]
  rw[decide_eq_false (by omega)]
  simp only[cond_false]) hl lr.2.2.2.2.1 0 n rfl (by omega) hn
theorem aaJ {ab:(List Int)} {aj:(List Int)} {Az:Option aa} {AA:Bool→Option aa} (hl:(List.length ab)≤maxLen) {n:Nat} (hn:(List.length ab)<n):pW ab aj n Az AA (0:Int)=
  kF (fun(i:Nat) (x:Int) (next:Option aa)=>
    bif (aN (i:Int) (List.length aj)) then
     bif (x != (List.getD aj (Int.toNat (i:Int)) (0:Int))) then
      AA false
     else
      next
    else none) (
    Az) ab 0:=by
 exact b7 (f:=fun n i=>pW ab aj n Az AA i) (l:=ab) (fun n i h=>by
  simp only[pW]
  rw[decide_eq_true (show(i:Int)<(List.length ab:Int) by omega)]
  simp only[cond_true,an h,Int.toNat_natCast,ai _ i h]) (fun n=>by
  simp only[pW]
  rw[decide_eq_false (by omega)]
  simp only[cond_false]) hl ab 0 n rfl (by omega) hn
theorem aaK {N:Nat} {ab:(List QT)} {aj:(List QT)} {cn:Option aa} {cp:Bool→Option aa} (hl:(List.length ab)≤maxLen) {n:Nat} (hn:(List.length ab)<n):pX N ab aj n cn cp (0:Int)=
  kF (fun(i:Nat) (x:QT) (next:Option aa)=>
    bif (aN (i:Int) (List.length aj)) then
     aei N x (List.getD aj (Int.toNat (i:Int)) au) (fun(jd:Bool)=>
      bif (!jd) then
       cp false
      else
       next)
    else none) (
    cn) ab 0:=by
 exact b7 (f:=fun n i=>pX N ab aj n cn cp i) (l:=ab) (fun n i h=>by
  simp only[pX]
  rw[decide_eq_true (show(i:Int)<(List.length ab:Int) by omega)]
  simp only[cond_true,an h,Int.toNat_natCast,ai _ i h]) (fun n=>by
  simp only[pX]
  rw[decide_eq_false (by omega)]
  simp only[cond_false]) hl ab 0 n rfl (by omega) hn
theorem aaL {N:Nat} {ab:(List QJ)} {aj:(List QJ)} {cn:Option aa} {cp:Bool→Option aa} (hl:(List.length ab)≤maxLen) {n:Nat} (hn:(List.length ab)<n):pY N ab aj n cn cp (0:Int)=
  kF (fun(i:Nat) (x:QJ) (next:Option aa)=>
    bif (aN (i:Int) (List.length aj)) then
     aej N x (List.getD aj (Int.toNat (i:Int)) b9) (fun(jd:Bool)=>
      bif (!jd) then
       cp false
      else
       next)
    else none) (
    cn) ab 0:=by
 exact b7 (f:=fun n i=>pY N ab aj n cn cp i) (l:=ab) (fun n i h=>by
  simp only[pY]
  rw[decide_eq_true (show(i:Int)<(List.length ab:Int) by omega)]
  simp only[cond_true,an h,Int.toNat_natCast,ai _ i h]) (fun n=>by
  simp only[pY]
  rw[decide_eq_false (by omega)]
  simp only[cond_false]) hl ab 0 n rfl (by omega) hn
theorem aaM {N:Nat} {ab:(List a7)} {aj:(List a7)} {cn:Option aa} {cp:Bool→Option aa} (hl:(List.length ab)≤maxLen) {n:Nat} (hn:(List.length ab)<n):pZ N ab aj n cn cp (0:Int)=
  kF (fun(i:Nat) (x:a7) (next:Option aa)=>
    bif (aN (i:Int) (List.length aj)) then
     aek N x (List.getD aj (Int.toNat (i:Int)) cA) (fun(jd:Bool)=>
      bif (!jd) then
       cp false
      else
       next)
    else none) (
    cn) ab 0:=by
 exact b7 (f:=fun n i=>pZ N ab aj n cn cp i) (l:=ab) (fun n i h=>by
  simp only[pZ]
  rw[decide_eq_true (show(i:Int)<(List.length ab:Int) by omega)]
  simp only[cond_true,an h,Int.toNat_natCast,ai _ i h]) (fun n=>by
  simp only[pZ]
  rw[decide_eq_false (by omega)]
  simp only[cond_false]) hl ab 0 n rfl (by omega) hn
theorem aaN {N:Nat} {ab:(List QB)} {aj:(List QB)} {cn:Option aa} {cp:Bool→Option aa} (hl:(List.length ab)≤maxLen) {n:Nat} (hn:(List.length ab)<n):p5 N ab aj n cn cp (0:Int)=
  kF (fun(i:Nat) (x:QB) (next:Option aa)=>
    bif (aN (i:Int) (List.length aj)) then
     ael N x (List.getD aj (Int.toNat (i:Int)) fp) (fun(jd:Bool)=>
      bif (!jd) then
       cp false
      else
       next)
    else none) (
    cn) ab 0:=by
 exact b7 (f:=fun n i=>p5 N ab aj n cn cp i) (l:=ab) (fun n i h=>by
  simp only[p5]
  rw[decide_eq_true (show(i:Int)<(List.length ab:Int) by omega)]
  simp only[cond_true,an h,Int.toNat_natCast,ai _ i h]) (fun n=>by
  simp only[p5]
  rw[decide_eq_false (by omega)]
  simp only[cond_false]) hl ab 0 n rfl (by omega) hn
theorem aaO {N:Nat} {ab:(List QL)} {aj:(List QL)} {cn:Option aa} {cp:Bool→Option aa} (hl:(List.length ab)≤maxLen) {n:Nat} (hn:(List.length ab)<n):p6 N ab aj n cn cp (0:Int)=
  kF (fun(i:Nat) (x:QL) (next:Option aa)=>
    bif (aN (i:Int) (List.length aj)) then
     aem N x (List.getD aj (Int.toNat (i:Int)) tJ) (fun(jd:Bool)=>
      bif (!jd) then
       cp false
      else
       next)
    else none) (
    cn) ab 0:=by
 exact b7 (f:=fun n i=>p6 N ab aj n cn cp i) (l:=ab) (fun n i h=>by
  simp only[p6]
  rw[decide_eq_true (show(i:Int)<(List.length ab:Int) by omega)]
  simp only[cond_true,an h,Int.toNat_natCast,ai _ i h]) (fun n=>by
  simp only[p6]
  rw[decide_eq_false (by omega)]
  simp only[cond_false]) hl ab 0 n rfl (by omega) hn
theorem aaP {lh:QC} {bh:QB} {il:(List Int)→Option aa} {ao:(List Int)} (hl:(List.length lh.2.2.2.2.1)≤maxLen) {n:Nat} (hn:(List.length lh.2.2.2.2.1)<n):m8 lh bh n il ao (0:Int)=
  bR (fun(i:Nat) (x:_) (ao:(List Int)) (next:(List Int)→Option aa)=>
    bif ((decide ((x.1:Int)=bh.1))&&((decide ((x.2.1:Int)=bh.2.1))&&(decide ((x.2.2:Int)=bh.2.2)))) then
     bif (decide ((List.length ao+List.length [(i:Int)])*1≤4398046511104)) then
      next (ao++[(i:Int)])
     else none
    else
     next ao) (fun(ao:(List Int))=>
    il ao) lh.2.2.2.2.1 0 ao:=by
 exact ck (f:=fun n ao i=>m8 lh bh n il ao i) (l:=lh.2.2.2.2.1) (fun n i ao h=>by
  simp only[m8]
  rw[decide_eq_true (show(i:Int)<(List.length lh.2.2.2.2.1:Int) by omega)]
  simp only[cond_true,an h,Int.toNat_natCast,ai _ i h]) (fun n ao=>by
  simp only[m8]
  rw[decide_eq_false (by omega)]
  simp only[cond_false]) hl lh.2.2.2.2.1 0 n ao rfl (by omega) hn
theorem aaQ {N:Nat} {ab:(List QB)} {bq:Option aa} {bB:Bool→Option aa} (hl:(List.length ab)≤maxLen) {n:Nat} (hn:(List.length ab)<n):m9 N ab n bq bB (0:Int)=
  kF (fun(i:Nat) (x:QB) (next:Option aa)=>
    NA N x (fun(aer:Bool)=>
     bif (!aer) then
      bB false
     else
      bif (decide ((i:Int)>(0:Int))) then
       bif (aN (IntKind.wrap .i64 ((i:Int) - (1:Int))) (List.length ab)) then
        bif (decide ((List.getD ab (Int.toNat (IntKind.wrap .i64 ((i:Int) - (1:Int)))) fp).1≥x.1)) then
         bB false
        else
         next
       else none
      else
       next)) (
    bq) ab 0:=by
 exact b7 (f:=fun n i=>m9 N ab n bq bB i) (l:=ab) (fun n i h=>by
  simp only[m9]
  rw[decide_eq_true (show(i:Int)<(List.length ab:Int) by omega)]
  simp only[cond_true,an h,Int.toNat_natCast,ai _ i h]) (fun n=>by
  simp only[m9]
  rw[decide_eq_false (by omega)]
  simp only[cond_false]) hl ab 0 n rfl (by omega) hn
theorem aaR {N:Nat} {ab:(List QB)} {aj:Int} {cl:Int→Option aa} {ak:Int} (hl:(List.length ab)≤maxLen) {n:Nat} (hn:(List.length ab)<n):na N ab aj n cl ak (0:Int)=
  bR (fun(i:Nat) (x:QB) (ak:Int) (next:Int→Option aa)=>
    SB N ab (fun(ND:Bool)=>
     bif ND then
      aab N x (fun(M':Int)=>
       bif (M'==aj) then
        next (IntKind.wrap .i64 (ak+(1:Int)))
       else
        next ak)
     else
      cl ak)) (fun(ak:Int)=>
    cl ak) ab 0 ak:=by
 exact ck (f:=fun n ak i=>na N ab aj n cl ak i) (l:=ab) (fun n i ak h=>by
  simp only[na]
  rw[decide_eq_true (show(i:Int)<(List.length ab:Int) by omega)]
  simp only[cond_true,an h,Int.toNat_natCast,ai _ i h]) (fun n ak=>by
  simp only[na]
  rw[decide_eq_false (by omega)]
  simp only[cond_false]) hl ab 0 n ak rfl (by omega) hn
theorem aaS {ab:(List Int)} {aj:Int} {bq:Int→Option aa} (hl:(List.length ab)≤maxLen) {n:Nat} (hn:(List.length ab)<n):p7 ab aj n bq (0:Int)=
  kF (fun(i:Nat) (x:Int) (next:Option aa)=>
    bif (decide (x<aj)) then
     next
    else
     bq (i:Int)) (
    bq (List.length ab:Int)) ab 0:=by
 exact b7 (f:=fun n i=>p7 ab aj n bq i) (l:=ab) (fun n i h=>by
  simp only[p7]
  rw[decide_eq_true (show(i:Int)<(List.length ab:Int) by omega)]
  simp only[cond_true,an h,Int.toNat_natCast,ai _ i h]) (fun n=>by
  simp only[p7]
  rw[decide_eq_false (by omega)]
  simp only[cond_false]) hl ab 0 n rfl (by omega) hn
theorem aeU {N:Nat} {eY:QC} {aeu:QC} {p8:QC→Bool→Option aa} {dO:QC} {xt:Bool} (hl:(List.length eY.2.2.1)≤maxLen) {n:Nat} (hn:(List.length eY.2.2.1)<n):rF N eY aeu n p8 dO xt (0:Int)=
  ZN (fun(i:Nat) (x:_) (dO:QC) (xt:Bool) (next:QC→Bool→Option aa)=>
    bif (aN (i:Int) (List.length eY.2.2.2.2.1)) then
     aac N [(List.getD eY.2.2.2.2.1 (Int.toNat (i:Int)) fp)] (fun(Fb:Int)=>
      aad N dO.1 x.1 x.2 Fb (List.getD eY.2.2.2.2.1 (Int.toNat (i:Int)) fp).2.1 (List.getD eY.2.2.2.2.1 (Int.toNat (i:Int)) fp).2.2 (fun(rG:(List QT)) (ph:Bool)=>
       bif xt then
        bif (aN (i:Int) (List.length eY.2.2.2.1)) then
         E7 N dO.2.1 (List.getD eY.2.2.2.1 (Int.toNat (i:Int)) (0:Int)) (fun(eT:Int)=>
          bif (aN eT (List.length dO.2.1)) then
           u5 N (List.getD dO.2.1 (Int.toNat eT) b9).2.2 x.1 (fun(Fe:(List Int))=>
            u5 N Fe x.2 (fun(xu:(List Int))=>
             bif (aN eT (List.length dO.2.1)) then
              next (rG,((List.set dO.2.1 (Int.toNat eT) ((List.getD dO.2.1 (Int.toNat eT) b9).1,((List.getD dO.2.1 (Int.toNat eT) b9).2.1,xu))),dO.2.2)) ph
             else none))
          else none)
        else none
       else
        bif (aN (i:Int) (List.length eY.2.2.2.1)) then
         E7 N dO.2.1 (List.getD eY.2.2.2.1 (Int.toNat (i:Int)) (0:Int)) (fun(eU:Int)=>
          bif (aN eU (List.length dO.2.1)) then
           u5 N (List.getD dO.2.1 (Int.toNat eU) b9).2.2 x.1 (fun(uP:(List Int))=>
            u5 N uP x.2 (fun(xv:(List Int))=>
             bif (aN eU (List.length dO.2.1)) then
              next (rG,((List.set dO.2.1 (Int.toNat eU) ((List.getD dO.2.1 (Int.toNat eU) b9).1,((List.getD dO.2.1 (Int.toNat eU) b9).2.1,xv))),dO.2.2)) false
             else none))
          else none)
        else none))
    else none) (fun(dO:QC) (xt:Bool)=>
    p8 dO xt) eY.2.2.1 0 dO xt:=by
 exact adC (f:=fun n dO xt i=>rF N eY aeu n p8 dO xt i) (l:=eY.2.2.1) (fun n i dO xt h=>by
  simp only[rF]
  rw[decide_eq_true (show(i:Int)<(List.length eY.2.2.1:Int) by omega)]
  simp only[cond_true,an h,Int.toNat_natCast,ai _ i h]) (fun n dO xt=>by
  simp only[rF]
  rw[decide_eq_false (by omega)]
  simp only[cond_false]) hl eY.2.2.1 0 n dO xt rfl (by omega) hn
theorem aaT {aj:Int} {fy:Int} {cI:QC} {I5:QC} {I6:QC} {cl:Int→Option aa} (hl:(List.length cI.1)≤maxLen) {n:Nat} (hn:(List.length cI.1)<n):nb aj fy cI I5 I6 n cl (0:Int)=
  kF (fun(i:Nat) (x:_) (next:Option aa)=>
    bif (decide (x.1<aj)) then
     next
    else
     cl (i:Int)) (
    cl (List.length cI.1:Int)) cI.1 0:=by
 exact b7 (f:=fun n i=>nb aj fy cI I5 I6 n cl i) (l:=cI.1) (fun n i h=>by
  simp only[nb]
  rw[decide_eq_true (show(i:Int)<(List.length cI.1:Int) by omega)]
  simp only[cond_true,an h,Int.toNat_natCast,ai _ i h]) (fun n=>by
  simp only[nb]
  rw[decide_eq_false (by omega)]
  simp only[cond_false]) hl cI.1 0 n rfl (by omega) hn
theorem aaU {aj:Int} {fy:Int} {cI:QC} {I5:QC} {I6:QC} {cl:Int→Option aa} (hl:(List.length cI.2.1)≤maxLen) {n:Nat} (hn:(List.length cI.2.1)<n):nc aj fy cI I5 I6 n cl (0:Int)=
  kF (fun(i:Nat) (x:_) (next:Option aa)=>
    bif (decide (x.1<aj)) then
     next
    else
     cl (i:Int)) (
    cl (List.length cI.2.1:Int)) cI.2.1 0:=by
 exact b7 (f:=fun n i=>nc aj fy cI I5 I6 n cl i) (l:=cI.2.1) (fun n i h=>by
  simp only[nc]
  rw[decide_eq_true (show(i:Int)<(List.length cI.2.1:Int) by omega)]
  simp only[cond_true,an h,Int.toNat_natCast,ai _ i h]) (fun n=>by
  simp only[nc]
  rw[decide_eq_false (by omega)]
  simp only[cond_false]) hl cI.2.1 0 n rfl (by omega) hn
end Go.Pv.R
