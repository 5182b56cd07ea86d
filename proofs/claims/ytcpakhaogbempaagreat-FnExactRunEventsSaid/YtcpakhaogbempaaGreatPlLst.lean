/- Their loops over lists, without rounds. -/
import Derived.Test.YtcpakhaogbempaaGreatPlRes
namespace Go.Pv.R
set_option linter.unusedVariables false
set_option linter.unusedSimpArgs false
theorem aa1 {N:Nat} {eE:(List QT)} {bJ:(List QT)→Option aa} {bG:(List QT)} (hl:(List.length eE)≤maxLen) {n:Nat} (hn:(List.length eE)<n):pd N eE (List.length eE:Int) n bJ bG (0:Int)=
  bQ (fun(i:Nat) (x:QT) (bG:(List QT)) (next:(List QT)→Option aa)=>
    Jc N x.2.2.2.2.2 (fun(rF:(List Int))=>
     bif (decide ((List.length bG+List.length [(x.1,(x.2.1,(x.2.2.1,(x.2.2.2.1,(x.2.2.2.2.1,rF)))))])*6≤4398046511104)) then
      next (bG++[(x.1,(x.2.1,(x.2.2.1,(x.2.2.2.1,(x.2.2.2.2.1,rF)))))])
     else none)) (fun(bG:(List QT))=>
    bJ bG) eE 0 bG:=by
 exact cc (f:=fun n bG i=>pd N eE (List.length eE:Int) n bJ bG i) (l:=eE) (fun n i bG h=>by
  simp only[pd]
  rw[decide_eq_true (show(i:Int)<(List.length eE:Int) by omega)]
  simp only[cond_true,an h,Int.toNat_natCast,ai _ i h]) (fun n bG=>by
  simp only[pd]
  rw[decide_eq_false (by omega)]
  simp only[cond_false]) hl eE 0 n bG rfl (by omega) hn
theorem aa2 {N:Nat} {eE:(List QJ)} {bJ:(List QJ)→Option aa} {bG:(List QJ)} (hl:(List.length eE)≤maxLen) {n:Nat} (hn:(List.length eE)<n):pf N eE (List.length eE:Int) n bJ bG (0:Int)=
  bQ (fun(i:Nat) (x:QJ) (bG:(List QJ)) (next:(List QJ)→Option aa)=>
    Jc N x.2.2 (fun(rF:(List Int))=>
     bif (decide ((List.length bG+List.length [(x.1,(x.2.1,rF))])*3≤4398046511104)) then
      next (bG++[(x.1,(x.2.1,rF))])
     else none)) (fun(bG:(List QJ))=>
    bJ bG) eE 0 bG:=by
 exact cc (f:=fun n bG i=>pf N eE (List.length eE:Int) n bJ bG i) (l:=eE) (fun n i bG h=>by
  simp only[pf]
  rw[decide_eq_true (show(i:Int)<(List.length eE:Int) by omega)]
  simp only[cond_true,an h,Int.toNat_natCast,ai _ i h]) (fun n bG=>by
  simp only[pf]
  rw[decide_eq_false (by omega)]
  simp only[cond_false]) hl eE 0 n bG rfl (by omega) hn
theorem aa3 {N:Nat} {ab:(List QT)} {aj:Int} {dH:Option aa} {eQ:Int→Option aa} (hl:(List.length ab)≤maxLen) {n:Nat} (hn:(List.length ab)<n):pg N ab aj (List.length ab:Int) n dH eQ (0:Int)=
  kC (fun(i:Nat) (x:QT) (next:Option aa)=>
    akI N x aj (fun(mg:Bool)=>
     bif mg then
      eQ (i:Int)
     else
      next)) (
    dH) ab 0:=by
 exact ca (f:=fun n i=>pg N ab aj (List.length ab:Int) n dH eQ i) (l:=ab) (fun n i h=>by
  simp only[pg]
  rw[decide_eq_true (show(i:Int)<(List.length ab:Int) by omega)]
  simp only[cond_true,an h,Int.toNat_natCast,ai _ i h]) (fun n=>by
  simp only[pg]
  rw[decide_eq_false (by omega)]
  simp only[cond_false]) hl ab 0 n rfl (by omega) hn
theorem aa4 {N:Nat} {iE:(List Int)} {bJ:Int→Option aa} {bG:Int} (hl:(List.length iE)≤maxLen) {n:Nat} (hn:(List.length iE)<n):pj N iE (List.length iE:Int) n bJ bG (0:Int)=
  bQ (fun(i:Nat) (x:Int) (bG:Int) (next:Int→Option aa)=>
    akL N bG x (fun(aes:Int)=>
     next aes)) (fun(bG:Int)=>
    bJ bG) iE 0 bG:=by
 exact cc (f:=fun n bG i=>pj N iE (List.length iE:Int) n bJ bG i) (l:=iE) (fun n i bG h=>by
  simp only[pj]
  rw[decide_eq_true (show(i:Int)<(List.length iE:Int) by omega)]
  simp only[cond_true,an h,Int.toNat_natCast,ai _ i h]) (fun n bG=>by
  simp only[pj]
  rw[decide_eq_false (by omega)]
  simp only[cond_false]) hl iE 0 n bG rfl (by omega) hn
theorem afj {N:Nat} {pk:(List QL)} {il:Option aa} {hJ:Bool→Option aa} {bG:Int} (hl:(List.length pk)≤maxLen) {n:Nat} (hn:(List.length pk)<n):uQ N pk (List.length pk:Int) n il hJ bG (0:Int)=
  bQ (fun(i:Nat) (x:QL) (bG:Int) (next:Int→Option aa)=>
    bif (x.1 != (IntKind.wrap .i64 ((i:Int)+(1:Int)))) then
     hJ false
    else
     eF N x.2.1 (1:Int) (9:Int) (fun(xx:Bool)=>
      bif (!xx) then
       hJ false
      else
       eF N x.2.2.1 (0:Int) (99:Int) (fun(NH:Bool)=>
        bif (!NH) then
         hJ false
        else
         Sz N bG x (fun(NI:Int)=>
          bif (x.2.2.2 != NI) then
           hJ false
          else
           next x.2.2.2)))) (fun(bG:Int)=>
    il) pk 0 bG:=by
 exact cc (f:=fun n bG i=>uQ N pk (List.length pk:Int) n il hJ bG i) (l:=pk) (fun n i bG h=>by
  simp only[uQ]
  rw[decide_eq_true (show(i:Int)<(List.length pk:Int) by omega)]
  simp only[cond_true,an h,Int.toNat_natCast,ai _ i h]) (fun n bG=>by
  simp only[uQ]
  rw[decide_eq_false (by omega)]
  simp only[cond_false]) hl pk 0 n bG rfl (by omega) hn
theorem afk {lp:Int} {nC:(List Int)} {cU:Int→Option aa} {fV:Int} (hl:(List.length nC)≤maxLen) {n:Nat} (hn:(List.length nC)<n):rH lp nC (List.length nC:Int) n cU fV (0:Int)=
  bQ (fun(i:Nat) (x:Int) (fV:Int) (next:Int→Option aa)=>
    bif (x==lp) then
     next (IntKind.wrap .i64 (fV+(1:Int)))
    else
     next fV) (fun(fV:Int)=>
    cU fV) nC 0 fV:=by
 exact cc (f:=fun n fV i=>rH lp nC (List.length nC:Int) n cU fV i) (l:=nC) (fun n i fV h=>by
  simp only[rH]
  rw[decide_eq_true (show(i:Int)<(List.length nC:Int) by omega)]
  simp only[cond_true,an h,Int.toNat_natCast,ai _ i h]) (fun n fV=>by
  simp only[rH]
  rw[decide_eq_false (by omega)]
  simp only[cond_false]) hl nC 0 n fV rfl (by omega) hn
theorem Tf {N:Nat} {tS:(List QT)} {tT:QT} {Jd:(List QT)} {Je:Int} {Jf:Int} {gI:(List Int)} {n6:Option aa} {gQ:Bool→Option aa} (hl:(List.length gI)≤maxLen) {n:Nat} (hn:(List.length gI)<n):gP N tS tT Jd Je Jf gI (List.length gI:Int) n n6 gQ (0:Int)=
  kC (fun(i:Nat) (x:Int) (next:Option aa)=>
    NG N tS x (fun(uR:Int)=>
     bif (decide (uR<(0:Int))) then
      gQ false
     else
      bif (x==tT.1) then
       gQ false
      else
       bif (aM uR (List.length tS)) then
        I78 N tT.2.2.2.2.2 x (fun(SA:Int)=>
         I78 N (List.getD tS (Int.toNat uR) ax).2.2.2.2.2 tT.1 (fun(Jg:Int)=>
          bif (SA != Jg) then
           gQ false
          else
           next))
       else none)) (
    n6) gI 0:=by
 exact ca (f:=fun n i=>gP N tS tT Jd Je Jf gI (List.length gI:Int) n n6 gQ i) (l:=gI) (fun n i h=>by
  simp only[gP]
  rw[decide_eq_true (show(i:Int)<(List.length gI:Int) by omega)]
  simp only[cond_true,an h,Int.toNat_natCast,ai _ i h]) (fun n=>by
  simp only[gP]
  rw[decide_eq_false (by omega)]
  simp only[cond_false]) hl gI 0 n rfl (by omega) hn
theorem aa5 {N:Nat} {ab:(List QT)} {cI:(List QT)} {pn:Option aa} {bI:Bool→Option aa} (hl:(List.length cI)≤maxLen) {n:Nat} (hn:(List.length cI)<n):mT N ab cI (List.length cI:Int) n pn bI (0:Int)=
  kC (fun(i:Nat) (x:QT) (next:Option aa)=>
    eF N x.1 (1:Int) (99:Int) (fun(xx:Bool)=>
     bif (!xx) then
      bI false
     else
      bif (decide ((i:Int)>(0:Int))) then
       bif (aM (IntKind.wrap .i64 ((i:Int) - (1:Int))) (List.length ab)) then
        bif (decide (x.1≤(List.getD ab (Int.toNat (IntKind.wrap .i64 ((i:Int) - (1:Int)))) ax).1)) then
         bI false
        else
         eF N x.2.1 (1:Int) (99:Int) (fun(aew:Bool)=>
          bif (!aew) then
           bI false
          else
           bif (decide ((List.length x.2.2.2.2.2:Int)>(20:Int))) then
            bI false
           else
            eF N x.2.2.1 (0:Int) (List.length x.2.2.2.2.2:Int) (fun(H9:Bool)=>
             bif (!H9) then
              bI false
             else
              eF N x.2.2.2.2.1 (0:Int) (List.length x.2.2.2.2.2:Int) (fun(aex:Bool)=>
               bif (!aex) then
                bI false
               else
                eF N x.2.2.2.1 (0:Int) (100000:Int) (fun(SB:Bool)=>
                 bif (!SB) then
                  bI false
                 else
                  gP N ab x cI (List.length cI:Int) (i:Int) x.2.2.2.2.2 (List.length x.2.2.2.2.2:Int) N next bI (0:Int)))))
       else none
      else
       eF N x.2.1 (1:Int) (99:Int) (fun(SC:Bool)=>
        bif (!SC) then
         bI false
        else
         bif (decide ((List.length x.2.2.2.2.2:Int)>(20:Int))) then
          bI false
         else
          eF N x.2.2.1 (0:Int) (List.length x.2.2.2.2.2:Int) (fun(SD:Bool)=>
           bif (!SD) then
            bI false
           else
            eF N x.2.2.2.2.1 (0:Int) (List.length x.2.2.2.2.2:Int) (fun(po:Bool)=>
             bif (!po) then
              bI false
             else
              eF N x.2.2.2.1 (0:Int) (100000:Int) (fun(SE:Bool)=>
               bif (!SE) then
                bI false
               else
                gP N ab x cI (List.length cI:Int) (i:Int) x.2.2.2.2.2 (List.length x.2.2.2.2.2:Int) N next bI (0:Int))))))) (
    pn) cI 0:=by
 exact ca (f:=fun n i=>mT N ab cI (List.length cI:Int) n pn bI i) (l:=cI) (fun n i h=>by
  simp only[mT,DF]
  rw[decide_eq_true (show(i:Int)<(List.length cI:Int) by omega)]
  simp only[cond_true,an h,Int.toNat_natCast,ai _ i h]) (fun n=>by
  simp only[mT,DF]
  rw[decide_eq_false (by omega)]
  simp only[cond_false]) hl cI 0 n rfl (by omega) hn
theorem afl {N:Nat} {NK:(List QJ)} {eR:QJ} {Fh:(List QJ)} {Fi:Int} {Fj:Int} {gJ:(List Int)} {pq:Option aa} {lq:Bool→Option aa} (hl:(List.length gJ)≤maxLen) {n:Nat} (hn:(List.length gJ)<n):mh N NK eR Fh Fi Fj gJ (List.length gJ:Int) n pq lq (0:Int)=
  kC (fun(i:Nat) (x:Int) (next:Option aa)=>
    eF N x (1:Int) (99:Int) (fun(SG:Bool)=>
     bif (!SG) then
      lq false
     else
      bif (decide ((i:Int)>(0:Int))) then
       bif (aM (IntKind.wrap .i64 ((i:Int) - (1:Int))) (List.length eR.2.2)) then
        bif (decide (x≤(List.getD eR.2.2 (Int.toNat (IntKind.wrap .i64 ((i:Int) - (1:Int)))) (0:Int)))) then
         lq false
        else
         next
       else none
      else
       next)) (
    pq) gJ 0:=by
 exact ca (f:=fun n i=>mh N NK eR Fh Fi Fj gJ (List.length gJ:Int) n pq lq i) (l:=gJ) (fun n i h=>by
  simp only[mh]
  rw[decide_eq_true (show(i:Int)<(List.length gJ:Int) by omega)]
  simp only[cond_true,an h,Int.toNat_natCast,ai _ i h]) (fun n=>by
  simp only[mh]
  rw[decide_eq_false (by omega)]
  simp only[cond_false]) hl gJ 0 n rfl (by omega) hn
theorem afm {N:Nat} {ab:(List QJ)} {eo:(List QJ)} {pv:Option aa} {dw:Bool→Option aa} (hl:(List.length eo)≤maxLen) {n:Nat} (hn:(List.length eo)<n):rI N ab eo (List.length eo:Int) n pv dw (0:Int)=
  kC (fun(i:Nat) (x:QJ) (next:Option aa)=>
    eF N x.1 (1:Int) (99:Int) (fun(aey:Bool)=>
     bif (!aey) then
      dw false
     else
      bif (decide ((i:Int)>(0:Int))) then
       bif (aM (IntKind.wrap .i64 ((i:Int) - (1:Int))) (List.length ab)) then
        bif (decide (x.1≤(List.getD ab (Int.toNat (IntKind.wrap .i64 ((i:Int) - (1:Int)))) cg).1)) then
         dw false
        else
         eF N x.2.1 (1:Int) (99:Int) (fun(aez:Bool)=>
          bif (!aez) then
           dw false
          else
           mh N ab x eo (List.length eo:Int) (i:Int) x.2.2 (List.length x.2.2:Int) N next dw (0:Int))
       else none
      else
       eF N x.2.1 (1:Int) (99:Int) (fun(rJ:Bool)=>
        bif (!rJ) then
         dw false
        else
         mh N ab x eo (List.length eo:Int) (i:Int) x.2.2 (List.length x.2.2:Int) N next dw (0:Int)))) (
    pv) eo 0:=by
 exact ca (f:=fun n i=>rI N ab eo (List.length eo:Int) n pv dw i) (l:=eo) (fun n i h=>by
  simp only[rI,Jh]
  rw[decide_eq_true (show(i:Int)<(List.length eo:Int) by omega)]
  simp only[cond_true,an h,Int.toNat_natCast,ai _ i h]) (fun n=>by
  simp only[rI,Jh]
  rw[decide_eq_false (by omega)]
  simp only[cond_false]) hl eo 0 n rfl (by omega) hn
theorem Ie {ab:(List Int)} {aj:Int} {kQ:Option aa} {fm:Int→Option aa} (hl:(List.length ab)≤maxLen) {n:Nat} (hn:(List.length ab)<n):pw ab aj (List.length ab:Int) n kQ fm (0:Int)=
  kC (fun(i:Nat) (x:Int) (next:Option aa)=>
    bif (aj==x) then
     fm (i:Int)
    else
     next) (
    kQ) ab 0:=by
 exact ca (f:=fun n i=>pw ab aj (List.length ab:Int) n kQ fm i) (l:=ab) (fun n i h=>by
  simp only[pw]
  rw[decide_eq_true (show(i:Int)<(List.length ab:Int) by omega)]
  simp only[cond_true,an h,Int.toNat_natCast,ai _ i h]) (fun n=>by
  simp only[pw]
  rw[decide_eq_false (by omega)]
  simp only[cond_false]) hl ab 0 n rfl (by omega) hn
theorem aa6 {N:Nat} {Ia:(List Int)} {iY:(List QT)} {n7:Option aa} {n9:Bool→Option aa} (hl:(List.length iY)≤maxLen) {n:Nat} (hn:(List.length iY)<n):py N Ia iY (List.length iY:Int) n n7 n9 (0:Int)=
  kC (fun(i:Nat) (x:QT) (next:Option aa)=>
    I78 N Ia x.1 (fun(SI:Int)=>
     bif (SI != (1:Int)) then
      n9 false
     else
      next)) (
    n7) iY 0:=by
 exact ca (f:=fun n i=>py N Ia iY (List.length iY:Int) n n7 n9 i) (l:=iY) (fun n i h=>by
  simp only[py]
  rw[decide_eq_true (show(i:Int)<(List.length iY:Int) by omega)]
  simp only[cond_true,an h,Int.toNat_natCast,ai _ i h]) (fun n=>by
  simp only[py]
  rw[decide_eq_false (by omega)]
  simp only[cond_false]) hl iY 0 n rfl (by omega) hn
theorem afn {N:Nat} {ab:(List QT)} {eS:(List a8)} {cU:(List Int)→Option aa} {fo:Bool→Option aa} {fV:(List Int)} (hl:(List.length eS)≤maxLen) {n:Nat} (hn:(List.length eS)<n):uS N ab eS (List.length eS:Int) n cU fo fV (0:Int)=
  bQ (fun(i:Nat) (x:a8) (fV:(List Int)) (next:(List Int)→Option aa)=>
    I77 N ab x.1 x.2 (fun(kE:Bool)=>
     bif (!kE) then
      fo false
     else
      bif (decide ((List.length fV+List.length [x.1,x.2])*1≤4398046511104)) then
       next (fV++[x.1,x.2])
      else none)) (fun(fV:(List Int))=>
    cU fV) eS 0 fV:=by
 exact cc (f:=fun n fV i=>uS N ab eS (List.length eS:Int) n cU fo fV i) (l:=eS) (fun n i fV h=>by
  simp only[uS]
  rw[decide_eq_true (show(i:Int)<(List.length eS:Int) by omega)]
  simp only[cond_true,an h,Int.toNat_natCast,ai _ i h]) (fun n fV=>by
  simp only[uS]
  rw[decide_eq_false (by omega)]
  simp only[cond_false]) hl eS 0 n fV rfl (by omega) hn
theorem afo {N:Nat} {ab:(List QJ)} {aj:Int} {dH:Option aa} {eQ:Int→Option aa} (hl:(List.length ab)≤maxLen) {n:Nat} (hn:(List.length ab)<n):uT N ab aj (List.length ab:Int) n dH eQ (0:Int)=
  kC (fun(i:Nat) (x:QJ) (next:Option aa)=>
    I81 N x aj (fun(mg:Bool)=>
     bif mg then
      eQ (i:Int)
     else
      next)) (
    dH) ab 0:=by
 exact ca (f:=fun n i=>uT N ab aj (List.length ab:Int) n dH eQ i) (l:=ab) (fun n i h=>by
  simp only[uT]
  rw[decide_eq_true (show(i:Int)<(List.length ab:Int) by omega)]
  simp only[cond_true,an h,Int.toNat_natCast,ai _ i h]) (fun n=>by
  simp only[uT]
  rw[decide_eq_false (by omega)]
  simp only[cond_false]) hl ab 0 n rfl (by omega) hn
theorem afp {N:Nat} {ab:(List QT)} {AG:QJ} {mi:(List Int)} {gl:Option aa} {j8:Bool→Option aa} (hl:(List.length mi)≤maxLen) {n:Nat} (hn:(List.length mi)<n):uU N ab AG mi (List.length mi:Int) n gl j8 (0:Int)=
  kC (fun(i:Nat) (x:Int) (next:Option aa)=>
    NG N ab x (fun(kE:Int)=>
     bif (decide (kE<(0:Int))) then
      j8 false
     else
      bif (aM kE (List.length ab)) then
       bif ((List.getD ab (Int.toNat kE) ax).2.1==AG.2.1) then
        j8 false
       else
        S82 N AG.2.2 x (fun(rJ:Bool)=>
         bif rJ then
          j8 false
         else
          next)
      else none)) (
    gl) mi 0:=by
 exact ca (f:=fun n i=>uU N ab AG mi (List.length mi:Int) n gl j8 i) (l:=mi) (fun n i h=>by
  simp only[uU]
  rw[decide_eq_true (show(i:Int)<(List.length mi:Int) by omega)]
  simp only[cond_true,an h,Int.toNat_natCast,ai _ i h]) (fun n=>by
  simp only[uU]
  rw[decide_eq_false (by omega)]
  simp only[cond_false]) hl mi 0 n rfl (by omega) hn
theorem afq {N:Nat} {AH:(List QT)} {ju:(List QJ)} {jP:(List a8)} {iF:(List Int)} {mj:(List Int)} {sI:Option aa} {j9:Bool→Option aa} (hl:(List.length mj)≤maxLen) {n:Nat} (hn:(List.length mj)<n):uV N AH ju jP iF mj (List.length mj:Int) n sI j9 (0:Int)=
  kC (fun(i:Nat) (x:Int) (next:Option aa)=>
    S80 N ju x (fun(uW:Int)=>
     bif (decide (uW<(0:Int))) then
      j9 false
     else
      bif (decide ((0:Int)≤(0:Int))&&decide ((0:Int)≤(i:Int))&&decide ((i:Int)≤(List.length iF:Int))) then
       S82 N (List.drop (Int.toNat (0:Int)) (List.take (Int.toNat (i:Int)) iF)) x (fun(SJ:Bool)=>
        bif SJ then
         j9 false
        else
         bif (aM uW (List.length ju)) then
          bif (aM (i:Int) (List.length jP)) then
           I83 N AH (List.getD ju (Int.toNat uW) cg) (List.getD jP (Int.toNat (i:Int)) cC) (fun(SK:Bool)=>
            bif (!SK) then
             j9 false
            else
             next)
          else none
         else none)
      else none)) (
    sI) mj 0:=by
 exact ca (f:=fun n i=>uV N AH ju jP iF mj (List.length mj:Int) n sI j9 i) (l:=mj) (fun n i h=>by
  simp only[uV]
  rw[decide_eq_true (show(i:Int)<(List.length mj:Int) by omega)]
  simp only[cond_true,an h,Int.toNat_natCast,ai _ i h]) (fun n=>by
  simp only[uV]
  rw[decide_eq_false (by omega)]
  simp only[cond_false]) hl mj 0 n rfl (by omega) hn
theorem aa7 {kD:(List QT)} {AI:Int→Option aa} {ao:Int} (hl:(List.length kD)≤maxLen) {n:Nat} (hn:(List.length kD)<n):pz kD (List.length kD:Int) n AI ao (0:Int)=
  bQ (fun(i:Nat) (x:QT) (ao:Int) (next:Int→Option aa)=>
    next (IntKind.wrap .i64 (ao+x.2.2.1))) (fun(ao:Int)=>
    AI ao) kD 0 ao:=by
 exact cc (f:=fun n ao i=>pz kD (List.length kD:Int) n AI ao i) (l:=kD) (fun n i ao h=>by
  simp only[pz]
  rw[decide_eq_true (show(i:Int)<(List.length kD:Int) by omega)]
  simp only[cond_true,an h,Int.toNat_natCast,ai _ i h]) (fun n ao=>by
  simp only[pz]
  rw[decide_eq_false (by omega)]
  simp only[cond_false]) hl kD 0 n ao rfl (by omega) hn
theorem afr {N:Nat} {im:QC} {iZ:(List QB)} {pA:Option aa} {lr:Bool→Option aa} (hl:(List.length iZ)≤maxLen) {n:Nat} (hn:(List.length iZ)<n):rK N im iZ (List.length iZ:Int) n pA lr (0:Int)=
  kC (fun(i:Nat) (x:QB) (next:Option aa)=>
    bif (!((decide ((x.1:Int)=(0:Int)))&&((decide ((x.2.1:Int)=(0:Int)))&&(decide ((x.2.2:Int)=(0:Int)))))) then
     NL N x (fun(SM:Bool)=>
      bif (!SM) then
       lr false
      else
       bif (aM (i:Int) (List.length im.2.2.2.1)) then
        bif (x.1 != (List.getD im.2.2.2.1 (Int.toNat (i:Int)) (0:Int))) then
         lr false
        else
         next
       else none)
    else
     next) (
    pA) iZ 0:=by
 exact ca (f:=fun n i=>rK N im iZ (List.length iZ:Int) n pA lr i) (l:=iZ) (fun n i h=>by
  simp only[rK]
  rw[decide_eq_true (show(i:Int)<(List.length iZ:Int) by omega)]
  simp only[cond_true,an h,Int.toNat_natCast,ai _ i h]) (fun n=>by
  simp only[rK]
  rw[decide_eq_false (by omega)]
  simp only[cond_false]) hl iZ 0 n rfl (by omega) hn
theorem afs {aaC:Int} {akP:Int} {akQ:QC} {akR:QC} {xz:QC} {mU:Int→Option aa} (hl:(List.length xz.1)≤maxLen) {n:Nat} (hn:(List.length xz.1)<n):rL aaC akP akQ akR xz n mU (0:Int)=
  kC (fun(i:Nat) (x:_) (next:Option aa)=>
    bif (decide (x.1<aaC)) then
     next
    else
     mU (i:Int)) (
    mU (List.length xz.1:Int)) xz.1 0:=by
 exact ca (f:=fun n i=>rL aaC akP akQ akR xz n mU i) (l:=xz.1) (fun n i h=>by
  simp only[rL]
  rw[decide_eq_true (show(i:Int)<(List.length xz.1:Int) by omega)]
  simp only[cond_true,an h,Int.toNat_natCast,ai _ i h]) (fun n=>by
  simp only[rL]
  rw[decide_eq_false (by omega)]
  simp only[cond_false]) hl xz.1 0 n rfl (by omega) hn
theorem aa8 {N:Nat} {ab:(List QJ)} {aj:Int} {dH:Option aa} {eQ:Int→Option aa} (hl:(List.length ab)≤maxLen) {n:Nat} (hn:(List.length ab)<n):pB N ab aj (List.length ab:Int) n dH eQ (0:Int)=
  kC (fun(i:Nat) (x:QJ) (next:Option aa)=>
    akS N x aj (fun(mg:Bool)=>
     bif mg then
      eQ (i:Int)
     else
      next)) (
    dH) ab 0:=by
 exact ca (f:=fun n i=>pB N ab aj (List.length ab:Int) n dH eQ i) (l:=ab) (fun n i h=>by
  simp only[pB]
  rw[decide_eq_true (show(i:Int)<(List.length ab:Int) by omega)]
  simp only[cond_true,an h,Int.toNat_natCast,ai _ i h]) (fun n=>by
  simp only[pB]
  rw[decide_eq_false (by omega)]
  simp only[cond_false]) hl ab 0 n rfl (by omega) hn
theorem aft {ju:Int} {jP:Int} {iF:QC} {akU:QC} {xA:QC} {eJ:Int→Option aa} (hl:(List.length xA.2.1)≤maxLen) {n:Nat} (hn:(List.length xA.2.1)<n):rM ju jP iF akU xA n eJ (0:Int)=
  kC (fun(i:Nat) (x:_) (next:Option aa)=>
    bif (decide (x.1<ju)) then
     next
    else
     eJ (i:Int)) (
    eJ (List.length xA.2.1:Int)) xA.2.1 0:=by
 exact ca (f:=fun n i=>rM ju jP iF akU xA n eJ i) (l:=xA.2.1) (fun n i h=>by
  simp only[rM]
  rw[decide_eq_true (show(i:Int)<(List.length xA.2.1:Int) by omega)]
  simp only[cond_true,an h,Int.toNat_natCast,ai _ i h]) (fun n=>by
  simp only[rM]
  rw[decide_eq_false (by omega)]
  simp only[cond_false]) hl xA.2.1 0 n rfl (by omega) hn
theorem aa9 {bG:Int} {iE:(List Int)} {a6:Option aa} {AJ:Int→Option aa} (hl:(List.length iE)≤maxLen) {n:Nat} (hn:(List.length iE)<n):pC bG iE (List.length iE:Int) n a6 AJ (0:Int)=
  kC (fun(i:Nat) (x:Int) (next:Option aa)=>
    bif (x != bG) then
     AJ x
    else
     next) (
    a6) iE 0:=by
 exact ca (f:=fun n i=>pC bG iE (List.length iE:Int) n a6 AJ i) (l:=iE) (fun n i h=>by
  simp only[pC]
  rw[decide_eq_true (show(i:Int)<(List.length iE:Int) by omega)]
  simp only[cond_true,an h,Int.toNat_natCast,ai _ i h]) (fun n=>by
  simp only[pC]
  rw[decide_eq_false (by omega)]
  simp only[cond_false]) hl iE 0 n rfl (by omega) hn
theorem aa' {gR:(List QT)} {AL:(List Int)→Option aa} {cK:(List Int)} (hl:(List.length gR)≤maxLen) {n:Nat} (hn:(List.length gR)<n):pE gR (List.length gR:Int) n AL cK (0:Int)=
  bQ (fun(i:Nat) (x:QT) (cK:(List Int)) (next:(List Int)→Option aa)=>
    bif (decide ((List.length cK+List.length [x.1])*1≤4398046511104)) then
     next (cK++[x.1])
    else none) (fun(cK:(List Int))=>
    AL cK) gR 0 cK:=by
 exact cc (f:=fun n cK i=>pE gR (List.length gR:Int) n AL cK i) (l:=gR) (fun n i cK h=>by
  simp only[pE]
  rw[decide_eq_true (show(i:Int)<(List.length gR:Int) by omega)]
  simp only[cond_true,an h,Int.toNat_natCast,ai _ i h]) (fun n cK=>by
  simp only[pE]
  rw[decide_eq_false (by omega)]
  simp only[cond_false]) hl gR 0 n cK rfl (by omega) hn
theorem Tg {iq:(List (List Int))} {ob:(List Int)→Option aa} {k8:(List Int)} (hl:(List.length iq)≤maxLen) {n:Nat} (hn:(List.length iq)<n):kF iq (List.length iq:Int) n ob k8 (0:Int)=
  bQ (fun(i:Nat) (x:(List Int)) (k8:(List Int)) (next:(List Int)→Option aa)=>
    bif (decide ((List.length k8+List.length x)*1≤4398046511104)) then
     next (k8++x)
    else none) (fun(k8:(List Int))=>
    ob k8) iq 0 k8:=by
 exact cc (f:=fun n k8 i=>kF iq (List.length iq:Int) n ob k8 i) (l:=iq) (fun n i k8 h=>by
  simp only[kF]
  rw[decide_eq_true (show(i:Int)<(List.length iq:Int) by omega)]
  simp only[cond_true,an h,Int.toNat_natCast,ai _ i h]) (fun n k8=>by
  simp only[kF]
  rw[decide_eq_false (by omega)]
  simp only[cond_false]) hl iq 0 n k8 rfl (by omega) hn
theorem aba {ab:(List (List Int))} {mn:(List (List Int))} {bJ:Int→Option aa} {ao:Int} (hl:(List.length mn)≤maxLen) {n:Nat} (hn:(List.length mn)<n):pF ab mn (List.length mn:Int) n bJ ao (0:Int)=
  bQ (fun(i:Nat) (x:(List Int)) (ao:Int) (next:Int→Option aa)=>
    bif (decide ((IntKind.wrap .i64 (ao+(List.length x:Int)))<(0:Int))) then
     none
    else
     next (IntKind.wrap .i64 (ao+(List.length x:Int)))) (fun(ao:Int)=>
    bJ ao) mn 0 ao:=by
 exact cc (f:=fun n ao i=>pF ab mn (List.length mn:Int) n bJ ao i) (l:=mn) (fun n i ao h=>by
  simp only[pF]
  rw[decide_eq_true (show(i:Int)<(List.length mn:Int) by omega)]
  simp only[cond_true,an h,Int.toNat_natCast,ai _ i h]) (fun n ao=>by
  simp only[pF]
  rw[decide_eq_false (by omega)]
  simp only[cond_false]) hl mn 0 n ao rfl (by omega) hn
theorem afu {gw:(List QB)} {bJ:(List Int)→Option aa} {bG:(List Int)} (hl:(List.length gw)≤maxLen) {n:Nat} (hn:(List.length gw)<n):rP gw (List.length gw:Int) n bJ bG (0:Int)=
  bQ (fun(i:Nat) (x:QB) (bG:(List Int)) (next:(List Int)→Option aa)=>
    bif ((decide ((x.1:Int)=(0:Int)))&&((decide ((x.2.1:Int)=(0:Int)))&&(decide ((x.2.2:Int)=(0:Int))))) then
     bif (decide ((List.length bG+List.length [(i:Int)])*1≤4398046511104)) then
      next (bG++[(i:Int)])
     else none
    else
     next bG) (fun(bG:(List Int))=>
    bJ bG) gw 0 bG:=by
 exact cc (f:=fun n bG i=>rP gw (List.length gw:Int) n bJ bG i) (l:=gw) (fun n i bG h=>by
  simp only[rP]
  rw[decide_eq_true (show(i:Int)<(List.length gw:Int) by omega)]
  simp only[cond_true,an h,Int.toNat_natCast,ai _ i h]) (fun n bG=>by
  simp only[rP]
  rw[decide_eq_false (by omega)]
  simp only[cond_false]) hl gw 0 n bG rfl (by omega) hn
theorem abb {N:Nat} {ab:(List QB)} {gw:(List QB)} {ir:Option aa} {pH:Bool→Option aa} (hl:(List.length gw)≤maxLen) {n:Nat} (hn:(List.length gw)<n):mX N ab gw (List.length gw:Int) n ir pH (0:Int)=
  kC (fun(i:Nat) (x:QB) (next:Option aa)=>
    NL N x (fun(mg:Bool)=>
     bif (!mg) then
      pH false
     else
      bif (decide ((i:Int)>(0:Int))) then
       bif (aM (IntKind.wrap .i64 ((i:Int) - (1:Int))) (List.length ab)) then
        bif (decide (x.1≤(List.getD ab (Int.toNat (IntKind.wrap .i64 ((i:Int) - (1:Int)))) fu).1)) then
         pH false
        else
         next
       else none
      else
       next)) (
    ir) gw 0:=by
 exact ca (f:=fun n i=>mX N ab gw (List.length gw:Int) n ir pH i) (l:=gw) (fun n i h=>by
  simp only[mX]
  rw[decide_eq_true (show(i:Int)<(List.length gw:Int) by omega)]
  simp only[cond_true,an h,Int.toNat_natCast,ai _ i h]) (fun n=>by
  simp only[mX]
  rw[decide_eq_false (by omega)]
  simp only[cond_false]) hl gw 0 n rfl (by omega) hn
theorem abc {N:Nat} {aj:Int} {bV:(List QB)} {eJ:Int→Option aa} {ak:Int} (hl:(List.length bV)≤maxLen) {n:Nat} (hn:(List.length bV)<n):mY N aj bV (List.length bV:Int) n eJ ak (0:Int)=
  bQ (fun(i:Nat) (x:QB) (ak:Int) (next:Int→Option aa)=>
    aaJ N x (fun(Ft:Int)=>
     bif (Ft==aj) then
      next (IntKind.wrap .i64 (ak+(1:Int)))
     else
      next ak)) (fun(ak:Int)=>
    eJ ak) bV 0 ak:=by
 exact cc (f:=fun n ak i=>mY N aj bV (List.length bV:Int) n eJ ak i) (l:=bV) (fun n i ak h=>by
  simp only[mY]
  rw[decide_eq_true (show(i:Int)<(List.length bV:Int) by omega)]
  simp only[cond_true,an h,Int.toNat_natCast,ai _ i h]) (fun n ak=>by
  simp only[mY]
  rw[decide_eq_false (by omega)]
  simp only[cond_false]) hl bV 0 n ak rfl (by omega) hn
theorem AQ {aj:Int} {bV:(List QB)} {il:Int→Option aa} {ak:Int} (hl:(List.length bV)≤maxLen) {n:Nat} (hn:(List.length bV)<n):lu aj bV (List.length bV:Int) n il ak (0:Int)=
  bQ (fun(i:Nat) (x:QB) (ak:Int) (next:Int→Option aa)=>
    bif (aj==(1:Int)) then
     next (IntKind.wrap .i64 (ak+x.2.1))
    else
     bif (aj==(2:Int)) then
      next (IntKind.wrap .i64 (ak+x.2.2))
     else
      next ak) (fun(ak:Int)=>
    il ak) bV 0 ak:=by
 exact cc (f:=fun n ak i=>lu aj bV (List.length bV:Int) n il ak i) (l:=bV) (fun n i ak h=>by
  simp only[lu]
  rw[decide_eq_true (show(i:Int)<(List.length bV:Int) by omega)]
  simp only[cond_true,an h,Int.toNat_natCast,ai _ i h]) (fun n ak=>by
  simp only[lu]
  rw[decide_eq_false (by omega)]
  simp only[cond_false]) hl bV 0 n ak rfl (by omega) hn
theorem afv {N:Nat} {im:QC} {aaH:QC} {fp:(List a8)} {sK:QC→Option aa} {sL:QC→Bool→Option aa} {gS:QC} (hl:(List.length fp)≤maxLen) {n:Nat} (hn:(List.length fp)<n):uY N im aaH fp (List.length fp:Int) n sK sL gS (0:Int)=
  bQ (fun(i:Nat) (x:a8) (gS:QC) (next:QC→Option aa)=>
    bif (aM (i:Int) (List.length im.2.2.2.2.1)) then
     aaK N [(List.getD im.2.2.2.2.1 (Int.toNat (i:Int)) fu)] (fun(Fv:Int)=>
      aaL N gS.1 x.1 x.2 Fv (List.getD im.2.2.2.2.1 (Int.toNat (i:Int)) fu).2.1 (List.getD im.2.2.2.2.1 (Int.toNat (i:Int)) fu).2.2 (fun(Fw:(List QT)) (Fx:Bool)=>
       bif (!Fx) then
        H8 N im (fun(Fy:QC)=>
         sL Fy false)
       else
        bif (aM (i:Int) (List.length im.2.2.2.1)) then
         SN N gS.2.1 (List.getD im.2.2.2.1 (Int.toNat (i:Int)) (0:Int)) (fun(cV:Int)=>
          bif (aM cV (List.length gS.2.1)) then
           bif (decide ((List.length (List.getD gS.2.1 (Int.toNat cV) cg).2.2+List.length [x.1,x.2])*1≤4398046511104)) then
            aaM N ((List.getD gS.2.1 (Int.toNat cV) cg).2.2++[x.1,x.2]) (fun(Fz:(List Int))=>
             aeN N Fz (fun(FA:(List Int))=>
              bif (aM cV (List.length gS.2.1)) then
               bif (Nat.beq (Int.toNat cV) (Int.toNat cV)) then
                next (Fw,((List.set gS.2.1 (Int.toNat cV) ((List.getD gS.2.1 (Int.toNat cV) cg).1,((List.getD gS.2.1 (Int.toNat cV) cg).2.1,FA))),gS.2.2))
               else none
              else none))
           else none
          else none)
        else none))
    else none) (fun(gS:QC)=>
    sK gS) fp 0 gS:=by
 exact cc (f:=fun n gS i=>uY N im aaH fp (List.length fp:Int) n sK sL gS i) (l:=fp) (fun n i gS h=>by
  simp only[uY]
  rw[decide_eq_true (show(i:Int)<(List.length fp:Int) by omega)]
  simp only[cond_true,an h,Int.toNat_natCast,ai _ i h]) (fun n gS=>by
  simp only[uY]
  rw[decide_eq_false (by omega)]
  simp only[cond_false]) hl fp 0 n gS rfl (by omega) hn
theorem afw {N:Nat} {ab:(List QT)} {jQ:Int→Option aa} {jR:Int→Option aa} {aj:Int} (hl:(List.length ab)≤maxLen) {n:Nat} (hn:(List.length ab)<n):uZ N ab n jQ jR aj (0:Int)=
  bQ (fun(i:Nat) (x:QT) (aj:Int) (next:Int→Option aa)=>
    aaN N x aj (fun(gB:Int)=>
     bif (decide (gB<(0:Int))) then
      jR (-1:Int)
     else
      next gB)) (fun(aj:Int)=>
    jQ aj) ab 0 aj:=by
 exact cc (f:=fun n aj i=>uZ N ab n jQ jR aj i) (l:=ab) (fun n i aj h=>by
  simp only[uZ]
  rw[decide_eq_true (show(i:Int)<(List.length ab:Int) by omega)]
  simp only[cond_true,an h,Int.toNat_natCast,ai _ i h]) (fun n aj=>by
  simp only[uZ]
  rw[decide_eq_false (by omega)]
  simp only[cond_false]) hl ab 0 n aj rfl (by omega) hn
theorem afx {N:Nat} {ab:(List QJ)} {jQ:Int→Option aa} {jR:Int→Option aa} {aj:Int} (hl:(List.length ab)≤maxLen) {n:Nat} (hn:(List.length ab)<n):u5 N ab n jQ jR aj (0:Int)=
  bQ (fun(i:Nat) (x:QJ) (aj:Int) (next:Int→Option aa)=>
    aaO N x aj (fun(gB:Int)=>
     bif (decide (gB<(0:Int))) then
      jR (-1:Int)
     else
      next gB)) (fun(aj:Int)=>
    jQ aj) ab 0 aj:=by
 exact cc (f:=fun n aj i=>u5 N ab n jQ jR aj i) (l:=ab) (fun n i aj h=>by
  simp only[u5]
  rw[decide_eq_true (show(i:Int)<(List.length ab:Int) by omega)]
  simp only[cond_true,an h,Int.toNat_natCast,ai _ i h]) (fun n aj=>by
  simp only[u5]
  rw[decide_eq_false (by omega)]
  simp only[cond_false]) hl ab 0 n aj rfl (by omega) hn
theorem afy {ab:(List Int)} {eU:(List Int)→Option aa} {ao:(List Int)} (hl:(List.length ab)≤maxLen) {n:Nat} (hn:(List.length ab)<n):u6 ab n eU ao (0:Int)=
  bQ (fun(i:Nat) (x:Int) (ao:(List Int)) (next:(List Int)→Option aa)=>
    bif (aM (i:Int) (List.length ao)) then
     next (List.set ao (Int.toNat (i:Int)) x)
    else none) (fun(ao:(List Int))=>
    eU ao) ab 0 ao:=by
 exact cc (f:=fun n ao i=>u6 ab n eU ao i) (l:=ab) (fun n i ao h=>by
  simp only[u6]
  rw[decide_eq_true (show(i:Int)<(List.length ab:Int) by omega)]
  simp only[cond_true,an h,Int.toNat_natCast,ai _ i h]) (fun n ao=>by
  simp only[u6]
  rw[decide_eq_false (by omega)]
  simp only[cond_false]) hl ab 0 n ao rfl (by omega) hn
theorem afz {N:Nat} {ab:(List QT)} {a6:(List QT)→Option aa} {ao:(List QT)} (hl:(List.length ab)≤maxLen) {n:Nat} (hn:(List.length ab)<n):u7 N ab n a6 ao (0:Int)=
  bQ (fun(i:Nat) (x:QT) (ao:(List QT)) (next:(List QT)→Option aa)=>
    aaP N x (fun(gm:QT)=>
     bif (aM (i:Int) (List.length ao)) then
      next (List.set ao (Int.toNat (i:Int)) gm)
     else none)) (fun(ao:(List QT))=>
    a6 ao) ab 0 ao:=by
 exact cc (f:=fun n ao i=>u7 N ab n a6 ao i) (l:=ab) (fun n i ao h=>by
  simp only[u7]
  rw[decide_eq_true (show(i:Int)<(List.length ab:Int) by omega)]
  simp only[cond_true,an h,Int.toNat_natCast,ai _ i h]) (fun n ao=>by
  simp only[u7]
  rw[decide_eq_false (by omega)]
  simp only[cond_false]) hl ab 0 n ao rfl (by omega) hn
theorem afA {N:Nat} {ab:(List QJ)} {a6:(List QJ)→Option aa} {ao:(List QJ)} (hl:(List.length ab)≤maxLen) {n:Nat} (hn:(List.length ab)<n):u9 N ab n a6 ao (0:Int)=
  bQ (fun(i:Nat) (x:QJ) (ao:(List QJ)) (next:(List QJ)→Option aa)=>
    aaQ N x (fun(gm:QJ)=>
     bif (aM (i:Int) (List.length ao)) then
      next (List.set ao (Int.toNat (i:Int)) gm)
     else none)) (fun(ao:(List QJ))=>
    a6 ao) ab 0 ao:=by
 exact cc (f:=fun n ao i=>u9 N ab n a6 ao i) (l:=ab) (fun n i ao h=>by
  simp only[u9]
  rw[decide_eq_true (show(i:Int)<(List.length ab:Int) by omega)]
  simp only[cond_true,an h,Int.toNat_natCast,ai _ i h]) (fun n ao=>by
  simp only[u9]
  rw[decide_eq_false (by omega)]
  simp only[cond_false]) hl ab 0 n ao rfl (by omega) hn
theorem afB {N:Nat} {ab:(List a8)} {a6:(List a8)→Option aa} {ao:(List a8)} (hl:(List.length ab)≤maxLen) {n:Nat} (hn:(List.length ab)<n):va N ab n a6 ao (0:Int)=
  bQ (fun(i:Nat) (x:a8) (ao:(List a8)) (next:(List a8)→Option aa)=>
    aaR N x (fun(gm:a8)=>
     bif (aM (i:Int) (List.length ao)) then
      next (List.set ao (Int.toNat (i:Int)) gm)
     else none)) (fun(ao:(List a8))=>
    a6 ao) ab 0 ao:=by
 exact cc (f:=fun n ao i=>va N ab n a6 ao i) (l:=ab) (fun n i ao h=>by
  simp only[va]
  rw[decide_eq_true (show(i:Int)<(List.length ab:Int) by omega)]
  simp only[cond_true,an h,Int.toNat_natCast,ai _ i h]) (fun n ao=>by
  simp only[va]
  rw[decide_eq_false (by omega)]
  simp only[cond_false]) hl ab 0 n ao rfl (by omega) hn
theorem afC {N:Nat} {ab:(List QB)} {a6:(List QB)→Option aa} {ao:(List QB)} (hl:(List.length ab)≤maxLen) {n:Nat} (hn:(List.length ab)<n):vd N ab n a6 ao (0:Int)=
  bQ (fun(i:Nat) (x:QB) (ao:(List QB)) (next:(List QB)→Option aa)=>
    aaS N x (fun(gm:QB)=>
     bif (aM (i:Int) (List.length ao)) then
      next (List.set ao (Int.toNat (i:Int)) gm)
     else none)) (fun(ao:(List QB))=>
    a6 ao) ab 0 ao:=by
 exact cc (f:=fun n ao i=>vd N ab n a6 ao i) (l:=ab) (fun n i ao h=>by
  simp only[vd]
  rw[decide_eq_true (show(i:Int)<(List.length ab:Int) by omega)]
  simp only[cond_true,an h,Int.toNat_natCast,ai _ i h]) (fun n ao=>by
  simp only[vd]
  rw[decide_eq_false (by omega)]
  simp only[cond_false]) hl ab 0 n ao rfl (by omega) hn
theorem abd {N:Nat} {ab:(List QL)} {a6:(List QL)→Option aa} {ao:(List QL)} (hl:(List.length ab)≤maxLen) {n:Nat} (hn:(List.length ab)<n):pI N ab n a6 ao (0:Int)=
  bQ (fun(i:Nat) (x:QL) (ao:(List QL)) (next:(List QL)→Option aa)=>
    aaT N x (fun(gm:QL)=>
     bif (aM (i:Int) (List.length ao)) then
      next (List.set ao (Int.toNat (i:Int)) gm)
     else none)) (fun(ao:(List QL))=>
    a6 ao) ab 0 ao:=by
 exact cc (f:=fun n ao i=>pI N ab n a6 ao i) (l:=ab) (fun n i ao h=>by
  simp only[pI]
  rw[decide_eq_true (show(i:Int)<(List.length ab:Int) by omega)]
  simp only[cond_true,an h,Int.toNat_natCast,ai _ i h]) (fun n ao=>by
  simp only[pI]
  rw[decide_eq_false (by omega)]
  simp only[cond_false]) hl ab 0 n ao rfl (by omega) hn
theorem abe {ab:(List QT)} {eU:(List QT)→Option aa} {ao:(List QT)} (hl:(List.length ab)≤maxLen) {n:Nat} (hn:(List.length ab)<n):pJ ab n eU ao (0:Int)=
  bQ (fun(i:Nat) (x:QT) (ao:(List QT)) (next:(List QT)→Option aa)=>
    bif (decide ((List.length ([]:(List Int))+List.length x.2.2.2.2.2)*1≤4398046511104)) then
     bif (decide ((List.length ao+List.length [(x.1,(x.2.1,(x.2.2.1,(x.2.2.2.1,(x.2.2.2.2.1,(([]:(List Int))++x.2.2.2.2.2))))))])*6≤4398046511104)) then
      next (ao++[(x.1,(x.2.1,(x.2.2.1,(x.2.2.2.1,(x.2.2.2.2.1,(([]:(List Int))++x.2.2.2.2.2))))))])
     else none
    else none) (fun(ao:(List QT))=>
    eU ao) ab 0 ao:=by
 exact cc (f:=fun n ao i=>pJ ab n eU ao i) (l:=ab) (fun n i ao h=>by
  simp only[pJ]
  rw[decide_eq_true (show(i:Int)<(List.length ab:Int) by omega)]
  simp only[cond_true,an h,Int.toNat_natCast,ai _ i h]) (fun n ao=>by
  simp only[pJ]
  rw[decide_eq_false (by omega)]
  simp only[cond_false]) hl ab 0 n ao rfl (by omega) hn
theorem abf {ab:(List QJ)} {eU:(List QJ)→Option aa} {ao:(List QJ)} (hl:(List.length ab)≤maxLen) {n:Nat} (hn:(List.length ab)<n):pK ab n eU ao (0:Int)=
  bQ (fun(i:Nat) (x:QJ) (ao:(List QJ)) (next:(List QJ)→Option aa)=>
    bif (decide ((List.length ([]:(List Int))+List.length x.2.2)*1≤4398046511104)) then
     bif (decide ((List.length ao+List.length [(x.1,(x.2.1,(([]:(List Int))++x.2.2)))])*3≤4398046511104)) then
      next (ao++[(x.1,(x.2.1,(([]:(List Int))++x.2.2)))])
     else none
    else none) (fun(ao:(List QJ))=>
    eU ao) ab 0 ao:=by
 exact cc (f:=fun n ao i=>pK ab n eU ao i) (l:=ab) (fun n i ao h=>by
  simp only[pK]
  rw[decide_eq_true (show(i:Int)<(List.length ab:Int) by omega)]
  simp only[cond_true,an h,Int.toNat_natCast,ai _ i h]) (fun n ao=>by
  simp only[pK]
  rw[decide_eq_false (by omega)]
  simp only[cond_false]) hl ab 0 n ao rfl (by omega) hn
theorem abg {ab:(List QT)} {aj:Int} {bu:Option aa} {bB:Int→Option aa} (hl:(List.length ab)≤maxLen) {n:Nat} (hn:(List.length ab)<n):pL ab aj n bu bB (0:Int)=
  kC (fun(i:Nat) (x:QT) (next:Option aa)=>
    bif (x.1==aj) then
     bB (i:Int)
    else
     next) (
    bu) ab 0:=by
 exact ca (f:=fun n i=>pL ab aj n bu bB i) (l:=ab) (fun n i h=>by
  simp only[pL]
  rw[decide_eq_true (show(i:Int)<(List.length ab:Int) by omega)]
  simp only[cond_true,an h,Int.toNat_natCast,ai _ i h]) (fun n=>by
  simp only[pL]
  rw[decide_eq_false (by omega)]
  simp only[cond_false]) hl ab 0 n rfl (by omega) hn
theorem abh {ab:(List Int)} {aj:Int} {bJ:Int→Option aa} {ak:Int} (hl:(List.length ab)≤maxLen) {n:Nat} (hn:(List.length ab)<n):mZ ab aj n bJ ak (0:Int)=
  bQ (fun(i:Nat) (x:Int) (ak:Int) (next:Int→Option aa)=>
    bif (x==aj) then
     next (IntKind.wrap .i64 (ak+(1:Int)))
    else
     next ak) (fun(ak:Int)=>
    bJ ak) ab 0 ak:=by
 exact cc (f:=fun n ak i=>mZ ab aj n bJ ak i) (l:=ab) (fun n i ak h=>by
  simp only[mZ]
  rw[decide_eq_true (show(i:Int)<(List.length ab:Int) by omega)]
  simp only[cond_true,an h,Int.toNat_natCast,ai _ i h]) (fun n ak=>by
  simp only[mZ]
  rw[decide_eq_false (by omega)]
  simp only[cond_false]) hl ab 0 n ak rfl (by omega) hn
theorem abi {N:Nat} {xB:(List QT)} {Ib:Int} {eR:QT} {sM:Option aa} {ka:Bool→Option aa} (hl:(List.length eR.2.2.2.2.2)≤maxLen) {n:Nat} (hn:(List.length eR.2.2.2.2.2)<n):ja N xB Ib eR n sM ka (0:Int)=
  kC (fun(i:Nat) (x:_) (next:Option aa)=>
    ve N xB x (fun(jS:Int)=>
     bif (decide (jS<(0:Int))) then
      ka false
     else
      bif (jS==Ib) then
       ka false
      else
       bif (aM jS (List.length xB)) then
        bif (aM jS (List.length xB)) then
         SZ N (List.getD xB (Int.toNat jS) ax).2.2.2.2.2 eR.1 (fun(Jw:Int)=>
          SZ N eR.2.2.2.2.2 (List.getD xB (Int.toNat jS) ax).1 (fun(Jx:Int)=>
           bif (Jw != Jx) then
            ka false
           else
            next))
        else none
       else none)) (
    sM) eR.2.2.2.2.2 0:=by
 exact ca (f:=fun n i=>ja N xB Ib eR n sM ka i) (l:=eR.2.2.2.2.2) (fun n i h=>by
  simp only[ja]
  rw[decide_eq_true (show(i:Int)<(List.length eR.2.2.2.2.2:Int) by omega)]
  simp only[cond_true,an h,Int.toNat_natCast,ai _ i h]) (fun n=>by
  simp only[ja]
  rw[decide_eq_false (by omega)]
  simp only[cond_false]) hl eR.2.2.2.2.2 0 n rfl (by omega) hn
theorem abj {N:Nat} {ab:(List QT)} {pM:Option aa} {cW:Bool→Option aa} (hl:(List.length ab)≤maxLen) {n:Nat} (hn:(List.length ab)<n):m5 N ab n pM cW (0:Int)=
  kC (fun(i:Nat) (x:QT) (next:Option aa)=>
    gy N x.1 (1:Int) (99:Int) (fun(Fu:Bool)=>
     bif (!Fu) then
      cW false
     else
      gy N x.2.1 (1:Int) (99:Int) (fun(FD:Bool)=>
       bif (!FD) then
        cW false
       else
        gy N x.2.2.1 (0:Int) (List.length x.2.2.2.2.2:Int) (fun(NP:Bool)=>
         bif (!NP) then
          cW false
         else
          gy N x.2.2.2.2.1 (0:Int) (List.length x.2.2.2.2.2:Int) (fun(aeS:Bool)=>
           bif (!aeS) then
            cW false
           else
            gy N x.2.2.2.1 (0:Int) (100000:Int) (fun(aeT:Bool)=>
             bif (!aeT) then
              cW false
             else
              bif (decide ((List.length x.2.2.2.2.2:Int)>(20:Int))) then
               cW false
              else
               bif (decide ((i:Int)>(0:Int))) then
                bif (aM (IntKind.wrap .i64 ((i:Int) - (1:Int))) (List.length ab)) then
                 bif (decide ((List.getD ab (Int.toNat (IntKind.wrap .i64 ((i:Int) - (1:Int)))) ax).1≥x.1)) then
                  cW false
                 else
                  ja N ab (i:Int) x N next cW (0:Int)
                else none
               else
                ja N ab (i:Int) x N next cW (0:Int))))))) (
    pM) ab 0:=by
 exact ca (f:=fun n i=>m5 N ab n pM cW i) (l:=ab) (fun n i h=>by
  simp only[m5]
  rw[decide_eq_true (show(i:Int)<(List.length ab:Int) by omega)]
  simp only[cond_true,an h,Int.toNat_natCast,ai _ i h]) (fun n=>by
  simp only[m5]
  rw[decide_eq_false (by omega)]
  simp only[cond_false]) hl ab 0 n rfl (by omega) hn
theorem FQ {m6:(List QT)} {oe:(List Int)→Option aa} {k9:(List Int)} (hl:(List.length m6)≤maxLen) {n:Nat} (hn:(List.length m6)<n):kG m6 n oe k9 (0:Int)=
  bQ (fun(i:Nat) (x:QT) (k9:(List Int)) (next:(List Int)→Option aa)=>
    bif (decide ((List.length k9+List.length [x.1])*1≤4398046511104)) then
     next (k9++[x.1])
    else none) (fun(k9:(List Int))=>
    oe k9) m6 0 k9:=by
 exact cc (f:=fun n k9 i=>kG m6 n oe k9 i) (l:=m6) (fun n i k9 h=>by
  simp only[kG]
  rw[decide_eq_true (show(i:Int)<(List.length m6:Int) by omega)]
  simp only[cond_true,an h,Int.toNat_natCast,ai _ i h]) (fun n k9=>by
  simp only[kG]
  rw[decide_eq_false (by omega)]
  simp only[cond_false]) hl m6 0 n k9 rfl (by omega) hn
theorem abk {N:Nat} {ab:(List QT)} {m7:(List QT)→Option aa} {ao:(List QT)} (hl:(List.length ab)≤maxLen) {n:Nat} (hn:(List.length ab)<n):pO N ab n m7 ao (0:Int)=
  bQ (fun(i:Nat) (x:QT) (ao:(List QT)) (next:(List QT)→Option aa)=>
    tF N ab (fun(aeV:Bool)=>
     bif aeV then
      pN N ab ao (i:Int) N (fun(gT:Int)=>
       bif (decide ((0:Int)≤(0:Int))&&decide ((0:Int)≤gT)&&decide (gT≤(List.length ao:Int))) then
        bif (decide ((0:Int)≤gT)&&decide (gT≤(List.length ao:Int))&&decide ((List.length ao:Int)≤(List.length ao:Int))) then
         bif (decide ((List.length ([]:(List QT))+List.length (List.drop 0 (List.take (Int.toNat gT) ao)))*6≤4398046511104)) then
          bif (decide ((List.length (([]:(List QT))++(List.drop 0 (List.take (Int.toNat gT) ao)))+List.length [x])*6≤4398046511104)) then
           bif (decide ((List.length ((([]:(List QT))++(List.drop 0 (List.take (Int.toNat gT) ao)))++[x])+List.length (List.drop (Int.toNat gT) (List.take (Int.toNat (List.length ao:Int)) ao)))*6≤4398046511104)) then
            next (((([]:(List QT))++(List.drop 0 (List.take (Int.toNat gT) ao)))++[x])++(List.drop (Int.toNat gT) (List.take (Int.toNat (List.length ao:Int)) ao)))
           else none
          else none
         else none
        else none
       else none) (List.length ao:Int)
     else
      m7 ao)) (fun(ao:(List QT))=>
    m7 ao) ab 0 ao:=by
 exact cc (f:=fun n ao i=>pO N ab n m7 ao i) (l:=ab) (fun n i ao h=>by
  simp only[pO]
  rw[decide_eq_true (show(i:Int)<(List.length ab:Int) by omega)]
  simp only[cond_true,an h,Int.toNat_natCast,ai _ i h]) (fun n ao=>by
  simp only[pO]
  rw[decide_eq_false (by omega)]
  simp only[cond_false]) hl ab 0 n ao rfl (by omega) hn
theorem abl {ab:(List Int)} {aj:Int} {bu:Option aa} {bB:Bool→Option aa} (hl:(List.length ab)≤maxLen) {n:Nat} (hn:(List.length ab)<n):pP ab aj n bu bB (0:Int)=
  kC (fun(i:Nat) (x:Int) (next:Option aa)=>
    bif (x==aj) then
     bB true
    else
     next) (
    bu) ab 0:=by
 exact ca (f:=fun n i=>pP ab aj n bu bB i) (l:=ab) (fun n i h=>by
  simp only[pP]
  rw[decide_eq_true (show(i:Int)<(List.length ab:Int) by omega)]
  simp only[cond_true,an h,Int.toNat_natCast,ai _ i h]) (fun n=>by
  simp only[pP]
  rw[decide_eq_false (by omega)]
  simp only[cond_false]) hl ab 0 n rfl (by omega) hn
theorem abm {N:Nat} {eI:(List QJ)} {jc:Int} {pR:Option aa} {lv:Bool→Option aa} (HZ:(aM jc (List.length eI))=true) (hl:(List.length (List.getD eI (Int.toNat jc) cg).2.2)≤maxLen) {n:Nat} (hn:(List.length (List.getD eI (Int.toNat jc) cg).2.2)<n):hY N eI jc n pR lv (0:Int)=
  kC (fun(i:Nat) (x:_) (next:Option aa)=>
    gy N x (1:Int) (99:Int) (fun(S7:Bool)=>
     bif (!S7) then
      lv false
     else
      bif (decide ((i:Int)>(0:Int))) then
       bif (aM (IntKind.wrap .i64 ((i:Int) - (1:Int))) (List.length (List.getD eI (Int.toNat jc) cg).2.2)) then
        bif (decide ((List.getD (List.getD eI (Int.toNat jc) cg).2.2 (Int.toNat (IntKind.wrap .i64 ((i:Int) - (1:Int)))) (0:Int))≥x)) then
         lv false
        else
         next
       else none
      else
       next)) (
    pR) ((List.getD eI (Int.toNat jc) cg).2.2) 0:=by
 exact ca (f:=fun n i=>hY N eI jc n pR lv i) (l:=((List.getD eI (Int.toNat jc) cg).2.2)) (fun n i h=>by
  simp only[hY,HZ,cond_true]
  rw[decide_eq_true (show(i:Int)<(List.length ((List.getD eI (Int.toNat jc) cg).2.2):Int) by omega)]
  simp only[cond_true,an h,Int.toNat_natCast,ai _ i h]) (fun n=>by
  simp only[hY,HZ,cond_true]
  rw[decide_eq_false (by omega)]
  simp only[cond_false]) hl ((List.getD eI (Int.toNat jc) cg).2.2) 0 n rfl (by omega) hn
theorem abn {N:Nat} {ab:(List QJ)} {pS:Option aa} {fq:Bool→Option aa} (hl:(List.length ab)≤maxLen) {n:Nat} (hn:(List.length ab)<n):m8 N ab n pS fq (0:Int)=
  kC (fun(i:Nat) (x:QJ) (next:Option aa)=>
    gy N x.1 (1:Int) (99:Int) (fun(NF:Bool)=>
     bif (!NF) then
      fq false
     else
      gy N x.2.1 (1:Int) (99:Int) (fun(FD:Bool)=>
       bif (!FD) then
        fq false
       else
        bif (decide ((i:Int)>(0:Int))) then
         bif (aM (IntKind.wrap .i64 ((i:Int) - (1:Int))) (List.length ab)) then
          bif (decide ((List.getD ab (Int.toNat (IntKind.wrap .i64 ((i:Int) - (1:Int)))) cg).1≥x.1)) then
           fq false
          else
           hY N ab (i:Int) N next fq (0:Int)
         else none
        else
         hY N ab (i:Int) N next fq (0:Int)))) (
    pS) ab 0:=by
 exact ca (f:=fun n i=>m8 N ab n pS fq i) (l:=ab) (fun n i h=>by
  simp only[m8]
  rw[decide_eq_true (show(i:Int)<(List.length ab:Int) by omega)]
  simp only[cond_true,an h,Int.toNat_natCast,ai _ i h]) (fun n=>by
  simp only[m8]
  rw[decide_eq_false (by omega)]
  simp only[cond_false]) hl ab 0 n rfl (by omega) hn
theorem abo {N:Nat} {ab:(List Int)} {a6:Int→Option aa} {ao:Int} (hl:(List.length ab)≤maxLen) {n:Nat} (hn:(List.length ab)<n):pT N ab n a6 ao (0:Int)=
  bQ (fun(i:Nat) (x:Int) (ao:Int) (next:Int→Option aa)=>
    aeX N x (2147483647:Int) (fun(aeY:Int)=>
     next (Int.tmod (IntKind.wrap .i64 ((IntKind.wrap .i64 ((IntKind.wrap .i64 (ao*(1000003:Int)))+aeY))+(13:Int))) (2147483647:Int)))) (fun(ao:Int)=>
    a6 ao) ab 0 ao:=by
 exact cc (f:=fun n ao i=>pT N ab n a6 ao i) (l:=ab) (fun n i ao h=>by
  simp only[pT]
  rw[decide_eq_true (show(i:Int)<(List.length ab:Int) by omega)]
  simp only[cond_true,an h,Int.toNat_natCast,ai _ i h]) (fun n ao=>by
  simp only[pT]
  rw[decide_eq_false (by omega)]
  simp only[cond_false]) hl ab 0 n ao rfl (by omega) hn
theorem abp {N:Nat} {ab:(List QL)} {cU:Option aa} {fo:Bool→Option aa} {ao:Int} (hl:(List.length ab)≤maxLen) {n:Nat} (hn:(List.length ab)<n):pU N ab n cU fo ao (0:Int)=
  bQ (fun(i:Nat) (x:QL) (ao:Int) (next:Int→Option aa)=>
    bif (decide ((List.length ab:Int)≤(200:Int))) then
     Ta N ao x (fun(gB:Int)=>
      bif (x.1 != (IntKind.wrap .i64 ((i:Int)+(1:Int)))) then
       fo false
      else
       gy N x.2.1 (1:Int) (9:Int) (fun(NY:Bool)=>
        bif (!NY) then
         fo false
        else
         gy N x.2.2.1 (0:Int) (99:Int) (fun(NZ:Bool)=>
          bif (!NZ) then
           fo false
          else
           bif (x.2.2.2 != gB) then
            fo false
           else
            next gB)))
    else
     cU) (fun(ao:Int)=>
    cU) ab 0 ao:=by
 exact cc (f:=fun n ao i=>pU N ab n cU fo ao i) (l:=ab) (fun n i ao h=>by
  simp only[pU]
  rw[decide_eq_true (show(i:Int)<(List.length ab:Int) by omega)]
  simp only[cond_true,an h,Int.toNat_natCast,ai _ i h]) (fun n ao=>by
  simp only[pU]
  rw[decide_eq_false (by omega)]
  simp only[cond_false]) hl ab 0 n ao rfl (by omega) hn
theorem abq {N:Nat} {ab:(List QT)} {a6:Int→Option aa} {ao:Int} (hl:(List.length ab)≤maxLen) {n:Nat} (hn:(List.length ab)<n):pV N ab n a6 ao (0:Int)=
  bQ (fun(i:Nat) (x:QT) (ao:Int) (next:Int→Option aa)=>
    tF N ab (fun(ae0:Bool)=>
     bif ae0 then
      next (IntKind.wrap .i64 (ao+x.2.2.1))
     else
      a6 ao)) (fun(ao:Int)=>
    a6 ao) ab 0 ao:=by
 exact cc (f:=fun n ao i=>pV N ab n a6 ao i) (l:=ab) (fun n i ao h=>by
  simp only[pV]
  rw[decide_eq_true (show(i:Int)<(List.length ab:Int) by omega)]
  simp only[cond_true,an h,Int.toNat_natCast,ai _ i h]) (fun n ao=>by
  simp only[pV]
  rw[decide_eq_false (by omega)]
  simp only[cond_false]) hl ab 0 n ao rfl (by omega) hn
theorem abr {N:Nat} {ab:(List QT)} {aj:(List a8)} {bR:(List Int)→Option aa} {ke:Bool→Option aa} {ak:(List Int)} (hl:(List.length aj)≤maxLen) {n:Nat} (hn:(List.length aj)<n):pW N ab aj n bR ke ak (0:Int)=
  bQ (fun(i:Nat) (x:a8) (ak:(List Int)) (next:(List Int)→Option aa)=>
    S0 N ab x.1 x.2 (fun(N0:Bool)=>
     bif (!N0) then
      ke false
     else
      vf N ak x.1 (fun(N1:Bool)=>
       bif N1 then
        ke false
       else
        vf N ak x.2 (fun(N3:Bool)=>
         bif N3 then
          ke false
         else
          bif (decide ((List.length ak+List.length [x.1,x.2])*1≤4398046511104)) then
           next (ak++[x.1,x.2])
          else none)))) (fun(ak:(List Int))=>
    bR ak) aj 0 ak:=by
 exact cc (f:=fun n ak i=>pW N ab aj n bR ke ak i) (l:=aj) (fun n i ak h=>by
  simp only[pW]
  rw[decide_eq_true (show(i:Int)<(List.length aj:Int) by omega)]
  simp only[cond_true,an h,Int.toNat_natCast,ai _ i h]) (fun n ak=>by
  simp only[pW]
  rw[decide_eq_false (by omega)]
  simp only[cond_false]) hl aj 0 n ak rfl (by omega) hn
theorem abt {ab:(List QJ)} {aj:Int} {bu:Option aa} {bB:Int→Option aa} (hl:(List.length ab)≤maxLen) {n:Nat} (hn:(List.length ab)<n):pX ab aj n bu bB (0:Int)=
  kC (fun(i:Nat) (x:QJ) (next:Option aa)=>
    bif (x.1==aj) then
     bB (i:Int)
    else
     next) (
    bu) ab 0:=by
 exact ca (f:=fun n i=>pX ab aj n bu bB i) (l:=ab) (fun n i h=>by
  simp only[pX]
  rw[decide_eq_true (show(i:Int)<(List.length ab:Int) by omega)]
  simp only[cond_true,an h,Int.toNat_natCast,ai _ i h]) (fun n=>by
  simp only[pX]
  rw[decide_eq_false (by omega)]
  simp only[cond_false]) hl ab 0 n rfl (by omega) hn
theorem abu {N:Nat} {AH:(List QT)} {ju:(List QJ)} {jP:(List a8)} {iF:(List Int)} {jd:Option aa} {ft:Bool→Option aa} (hl:(List.length jP)≤maxLen) {n:Nat} (hn:(List.length jP)<n):pY N AH ju jP iF n jd ft (0:Int)=
  kC (fun(i:Nat) (x:a8) (next:Option aa)=>
    bif (aM (i:Int) (List.length iF)) then
     FE N ju (List.getD iF (Int.toNat (i:Int)) (0:Int)) (fun(FH:Int)=>
      bif (decide (FH<(0:Int))) then
       ft false
      else
       bif (decide ((0:Int)≤(0:Int))&&decide ((0:Int)≤(i:Int))&&decide ((i:Int)≤(List.length iF:Int))) then
        bif (aM (i:Int) (List.length iF)) then
         vf N (List.drop (Int.toNat (0:Int)) (List.take (Int.toNat (i:Int)) iF)) (List.getD iF (Int.toNat (i:Int)) (0:Int)) (fun(ae1:Bool)=>
          bif ae1 then
           ft false
          else
           bif (aM FH (List.length ju)) then
            aaW N AH (List.getD ju (Int.toNat FH) cg) x (fun(Tb:Bool)=>
             bif (!Tb) then
              ft false
             else
              next)
           else none)
        else none
       else none)
    else none) (
    jd) jP 0:=by
 exact ca (f:=fun n i=>pY N AH ju jP iF n jd ft i) (l:=jP) (fun n i h=>by
  simp only[pY]
  rw[decide_eq_true (show(i:Int)<(List.length jP:Int) by omega)]
  simp only[cond_true,an h,Int.toNat_natCast,ai _ i h]) (fun n=>by
  simp only[pY]
  rw[decide_eq_false (by omega)]
  simp only[cond_false]) hl jP 0 n rfl (by omega) hn
theorem abv {N:Nat} {lx:QC} {FJ:QB} {pZ:Option aa} {ly:Bool→Option aa} (hl:(List.length lx.2.2.2.2.1)≤maxLen) {n:Nat} (hn:(List.length lx.2.2.2.2.1)<n):na N lx FJ n pZ ly (0:Int)=
  kC (fun(i:Nat) (x:_) (next:Option aa)=>
    bif (!((decide ((x.1:Int)=FJ.1))&&((decide ((x.2.1:Int)=FJ.2.1))&&(decide ((x.2.2:Int)=FJ.2.2))))) then
     N4 N x (fun(Tc:Bool)=>
      bif (!Tc) then
       ly false
      else
       bif (aM (i:Int) (List.length lx.2.2.2.1)) then
        bif (x.1 != (List.getD lx.2.2.2.1 (Int.toNat (i:Int)) (0:Int))) then
         ly false
        else
         next
       else none)
    else
     next) (
    pZ) lx.2.2.2.2.1 0:=by
 exact ca (f:=fun n i=>na N lx FJ n pZ ly i) (l:=lx.2.2.2.2.1) (fun n i h=>by
  simp only[na]
  rw[decide_eq_true (show(i:Int)<(List.length lx.2.2.2.2.1:Int) by omega)]
  simp only[cond_true,an h,Int.toNat_natCast,ai _ i h]) (fun n=>by
  simp only[na]
  rw[decide_eq_false (by omega)]
  simp only[cond_false]) hl lx.2.2.2.2.1 0 n rfl (by omega) hn
theorem abw {ab:(List Int)} {aj:(List Int)} {AM:Option aa} {AN:Bool→Option aa} (hl:(List.length ab)≤maxLen) {n:Nat} (hn:(List.length ab)<n):p5 ab aj n AM AN (0:Int)=
  kC (fun(i:Nat) (x:Int) (next:Option aa)=>
    bif (aM (i:Int) (List.length aj)) then
     bif (x != (List.getD aj (Int.toNat (i:Int)) (0:Int))) then
      AN false
     else
      next
    else none) (
    AM) ab 0:=by
 exact ca (f:=fun n i=>p5 ab aj n AM AN i) (l:=ab) (fun n i h=>by
  simp only[p5]
  rw[decide_eq_true (show(i:Int)<(List.length ab:Int) by omega)]
  simp only[cond_true,an h,Int.toNat_natCast,ai _ i h]) (fun n=>by
  simp only[p5]
  rw[decide_eq_false (by omega)]
  simp only[cond_false]) hl ab 0 n rfl (by omega) hn
theorem abx {N:Nat} {ab:(List QT)} {aj:(List QT)} {bS:Option aa} {bT:Bool→Option aa} (hl:(List.length ab)≤maxLen) {n:Nat} (hn:(List.length ab)<n):p6 N ab aj n bS bT (0:Int)=
  kC (fun(i:Nat) (x:QT) (next:Option aa)=>
    bif (aM (i:Int) (List.length aj)) then
     ae2 N x (List.getD aj (Int.toNat (i:Int)) ax) (fun(gn:Bool)=>
      bif (!gn) then
       bT false
      else
       next)
    else none) (
    bS) ab 0:=by
 exact ca (f:=fun n i=>p6 N ab aj n bS bT i) (l:=ab) (fun n i h=>by
  simp only[p6]
  rw[decide_eq_true (show(i:Int)<(List.length ab:Int) by omega)]
  simp only[cond_true,an h,Int.toNat_natCast,ai _ i h]) (fun n=>by
  simp only[p6]
  rw[decide_eq_false (by omega)]
  simp only[cond_false]) hl ab 0 n rfl (by omega) hn
theorem aby {N:Nat} {ab:(List QJ)} {aj:(List QJ)} {bS:Option aa} {bT:Bool→Option aa} (hl:(List.length ab)≤maxLen) {n:Nat} (hn:(List.length ab)<n):p7 N ab aj n bS bT (0:Int)=
  kC (fun(i:Nat) (x:QJ) (next:Option aa)=>
    bif (aM (i:Int) (List.length aj)) then
     ae3 N x (List.getD aj (Int.toNat (i:Int)) cg) (fun(gn:Bool)=>
      bif (!gn) then
       bT false
      else
       next)
    else none) (
    bS) ab 0:=by
 exact ca (f:=fun n i=>p7 N ab aj n bS bT i) (l:=ab) (fun n i h=>by
  simp only[p7]
  rw[decide_eq_true (show(i:Int)<(List.length ab:Int) by omega)]
  simp only[cond_true,an h,Int.toNat_natCast,ai _ i h]) (fun n=>by
  simp only[p7]
  rw[decide_eq_false (by omega)]
  simp only[cond_false]) hl ab 0 n rfl (by omega) hn
theorem abz {N:Nat} {ab:(List a8)} {aj:(List a8)} {bS:Option aa} {bT:Bool→Option aa} (hl:(List.length ab)≤maxLen) {n:Nat} (hn:(List.length ab)<n):p8 N ab aj n bS bT (0:Int)=
  kC (fun(i:Nat) (x:a8) (next:Option aa)=>
    bif (aM (i:Int) (List.length aj)) then
     ae4 N x (List.getD aj (Int.toNat (i:Int)) cC) (fun(gn:Bool)=>
      bif (!gn) then
       bT false
      else
       next)
    else none) (
    bS) ab 0:=by
 exact ca (f:=fun n i=>p8 N ab aj n bS bT i) (l:=ab) (fun n i h=>by
  simp only[p8]
  rw[decide_eq_true (show(i:Int)<(List.length ab:Int) by omega)]
  simp only[cond_true,an h,Int.toNat_natCast,ai _ i h]) (fun n=>by
  simp only[p8]
  rw[decide_eq_false (by omega)]
  simp only[cond_false]) hl ab 0 n rfl (by omega) hn
theorem abA {N:Nat} {ab:(List QB)} {aj:(List QB)} {bS:Option aa} {bT:Bool→Option aa} (hl:(List.length ab)≤maxLen) {n:Nat} (hn:(List.length ab)<n):p9 N ab aj n bS bT (0:Int)=
  kC (fun(i:Nat) (x:QB) (next:Option aa)=>
    bif (aM (i:Int) (List.length aj)) then
     ae5 N x (List.getD aj (Int.toNat (i:Int)) fu) (fun(gn:Bool)=>
      bif (!gn) then
       bT false
      else
       next)
    else none) (
    bS) ab 0:=by
 exact ca (f:=fun n i=>p9 N ab aj n bS bT i) (l:=ab) (fun n i h=>by
  simp only[p9]
  rw[decide_eq_true (show(i:Int)<(List.length ab:Int) by omega)]
  simp only[cond_true,an h,Int.toNat_natCast,ai _ i h]) (fun n=>by
  simp only[p9]
  rw[decide_eq_false (by omega)]
  simp only[cond_false]) hl ab 0 n rfl (by omega) hn
theorem abB {N:Nat} {ab:(List QL)} {aj:(List QL)} {bS:Option aa} {bT:Bool→Option aa} (hl:(List.length ab)≤maxLen) {n:Nat} (hn:(List.length ab)<n):qa N ab aj n bS bT (0:Int)=
  kC (fun(i:Nat) (x:QL) (next:Option aa)=>
    bif (aM (i:Int) (List.length aj)) then
     ae6 N x (List.getD aj (Int.toNat (i:Int)) mf) (fun(gn:Bool)=>
      bif (!gn) then
       bT false
      else
       next)
    else none) (
    bS) ab 0:=by
 exact ca (f:=fun n i=>qa N ab aj n bS bT i) (l:=ab) (fun n i h=>by
  simp only[qa]
  rw[decide_eq_true (show(i:Int)<(List.length ab:Int) by omega)]
  simp only[cond_true,an h,Int.toNat_natCast,ai _ i h]) (fun n=>by
  simp only[qa]
  rw[decide_eq_false (by omega)]
  simp only[cond_false]) hl ab 0 n rfl (by omega) hn
theorem abC {lp:QC} {bc:QB} {ir:(List Int)→Option aa} {ao:(List Int)} (hl:(List.length lp.2.2.2.2.1)≤maxLen) {n:Nat} (hn:(List.length lp.2.2.2.2.1)<n):nb lp bc n ir ao (0:Int)=
  bQ (fun(i:Nat) (x:_) (ao:(List Int)) (next:(List Int)→Option aa)=>
    bif ((decide ((x.1:Int)=bc.1))&&((decide ((x.2.1:Int)=bc.2.1))&&(decide ((x.2.2:Int)=bc.2.2)))) then
     bif (decide ((List.length ao+List.length [(i:Int)])*1≤4398046511104)) then
      next (ao++[(i:Int)])
     else none
    else
     next ao) (fun(ao:(List Int))=>
    ir ao) lp.2.2.2.2.1 0 ao:=by
 exact cc (f:=fun n ao i=>nb lp bc n ir ao i) (l:=lp.2.2.2.2.1) (fun n i ao h=>by
  simp only[nb]
  rw[decide_eq_true (show(i:Int)<(List.length lp.2.2.2.2.1:Int) by omega)]
  simp only[cond_true,an h,Int.toNat_natCast,ai _ i h]) (fun n ao=>by
  simp only[nb]
  rw[decide_eq_false (by omega)]
  simp only[cond_false]) hl lp.2.2.2.2.1 0 n ao rfl (by omega) hn
theorem abD {N:Nat} {ab:(List QB)} {bu:Option aa} {bB:Bool→Option aa} (hl:(List.length ab)≤maxLen) {n:Nat} (hn:(List.length ab)<n):nc N ab n bu bB (0:Int)=
  kC (fun(i:Nat) (x:QB) (next:Option aa)=>
    N4 N x (fun(ae':Bool)=>
     bif (!ae') then
      bB false
     else
      bif (decide ((i:Int)>(0:Int))) then
       bif (aM (IntKind.wrap .i64 ((i:Int) - (1:Int))) (List.length ab)) then
        bif (decide ((List.getD ab (Int.toNat (IntKind.wrap .i64 ((i:Int) - (1:Int)))) fu).1≥x.1)) then
         bB false
        else
         next
       else none
      else
       next)) (
    bu) ab 0:=by
 exact ca (f:=fun n i=>nc N ab n bu bB i) (l:=ab) (fun n i h=>by
  simp only[nc]
  rw[decide_eq_true (show(i:Int)<(List.length ab:Int) by omega)]
  simp only[cond_true,an h,Int.toNat_natCast,ai _ i h]) (fun n=>by
  simp only[nc]
  rw[decide_eq_false (by omega)]
  simp only[cond_false]) hl ab 0 n rfl (by omega) hn
theorem abE {N:Nat} {ab:(List QB)} {aj:Int} {bR:Int→Option aa} {ak:Int} (hl:(List.length ab)≤maxLen) {n:Nat} (hn:(List.length ab)<n):nf N ab aj n bR ak (0:Int)=
  bQ (fun(i:Nat) (x:QB) (ak:Int) (next:Int→Option aa)=>
    Te N ab (fun(N8:Bool)=>
     bif N8 then
      aaY N x (fun(xw:Int)=>
       bif (xw==aj) then
        next (IntKind.wrap .i64 (ak+(1:Int)))
       else
        next ak)
     else
      bR ak)) (fun(ak:Int)=>
    bR ak) ab 0 ak:=by
 exact cc (f:=fun n ak i=>nf N ab aj n bR ak i) (l:=ab) (fun n i ak h=>by
  simp only[nf]
  rw[decide_eq_true (show(i:Int)<(List.length ab:Int) by omega)]
  simp only[cond_true,an h,Int.toNat_natCast,ai _ i h]) (fun n ak=>by
  simp only[nf]
  rw[decide_eq_false (by omega)]
  simp only[cond_false]) hl ab 0 n ak rfl (by omega) hn
theorem abF {ab:(List Int)} {aj:Int} {bu:Int→Option aa} (hl:(List.length ab)≤maxLen) {n:Nat} (hn:(List.length ab)<n):qb ab aj n bu (0:Int)=
  kC (fun(i:Nat) (x:Int) (next:Option aa)=>
    bif (decide (x<aj)) then
     next
    else
     bu (i:Int)) (
    bu (List.length ab:Int)) ab 0:=by
 exact ca (f:=fun n i=>qb ab aj n bu i) (l:=ab) (fun n i h=>by
  simp only[qb]
  rw[decide_eq_true (show(i:Int)<(List.length ab:Int) by omega)]
  simp only[cond_true,an h,Int.toNat_natCast,ai _ i h]) (fun n=>by
  simp only[qb]
  rw[decide_eq_false (by omega)]
  simp only[cond_false]) hl ab 0 n rfl (by omega) hn
theorem afD {N:Nat} {e8:QC} {afc:QC} {qc:QC→Bool→Option aa} {dR:QC} {xE:Bool} (hl:(List.length e8.2.2.1)≤maxLen) {n:Nat} (hn:(List.length e8.2.2.1)<n):rQ N e8 afc n qc dR xE (0:Int)=
  aaz (fun(i:Nat) (x:_) (dR:QC) (xE:Bool) (next:QC→Bool→Option aa)=>
    bif (aM (i:Int) (List.length e8.2.2.2.2.1)) then
     aaZ N [(List.getD e8.2.2.2.2.1 (Int.toNat (i:Int)) fu)] (fun(FM:Int)=>
      aa0 N dR.1 x.1 x.2 FM (List.getD e8.2.2.2.2.1 (Int.toNat (i:Int)) fu).2.1 (List.getD e8.2.2.2.2.1 (Int.toNat (i:Int)) fu).2.2 (fun(rR:(List QT)) (po:Bool)=>
       bif xE then
        bif (aM (i:Int) (List.length e8.2.2.2.1)) then
         FE N dR.2.1 (List.getD e8.2.2.2.1 (Int.toNat (i:Int)) (0:Int)) (fun(eV:Int)=>
          bif (aM eV (List.length dR.2.1)) then
           vg N (List.getD dR.2.1 (Int.toNat eV) cg).2.2 x.1 (fun(FN:(List Int))=>
            vg N FN x.2 (fun(xF:(List Int))=>
             bif (aM eV (List.length dR.2.1)) then
              next (rR,((List.set dR.2.1 (Int.toNat eV) ((List.getD dR.2.1 (Int.toNat eV) cg).1,((List.getD dR.2.1 (Int.toNat eV) cg).2.1,xF))),dR.2.2)) po
             else none))
          else none)
        else none
       else
        bif (aM (i:Int) (List.length e8.2.2.2.1)) then
         FE N dR.2.1 (List.getD e8.2.2.2.1 (Int.toNat (i:Int)) (0:Int)) (fun(eW:Int)=>
          bif (aM eW (List.length dR.2.1)) then
           vg N (List.getD dR.2.1 (Int.toNat eW) cg).2.2 x.1 (fun(uX:(List Int))=>
            vg N uX x.2 (fun(xG:(List Int))=>
             bif (aM eW (List.length dR.2.1)) then
              next (rR,((List.set dR.2.1 (Int.toNat eW) ((List.getD dR.2.1 (Int.toNat eW) cg).1,((List.getD dR.2.1 (Int.toNat eW) cg).2.1,xG))),dR.2.2)) false
             else none))
          else none)
        else none))
    else none) (fun(dR:QC) (xE:Bool)=>
    qc dR xE) e8.2.2.1 0 dR xE:=by
 exact aep (f:=fun n dR xE i=>rQ N e8 afc n qc dR xE i) (l:=e8.2.2.1) (fun n i dR xE h=>by
  simp only[rQ]
  rw[decide_eq_true (show(i:Int)<(List.length e8.2.2.1:Int) by omega)]
  simp only[cond_true,an h,Int.toNat_natCast,ai _ i h]) (fun n dR xE=>by
  simp only[rQ]
  rw[decide_eq_false (by omega)]
  simp only[cond_false]) hl e8.2.2.1 0 n dR xE rfl (by omega) hn
theorem abG {aj:Int} {fA:Int} {cK:QC} {xH:QC} {JA:QC} {bR:Int→Option aa} (hl:(List.length cK.1)≤maxLen) {n:Nat} (hn:(List.length cK.1)<n):ng aj fA cK xH JA n bR (0:Int)=
  kC (fun(i:Nat) (x:_) (next:Option aa)=>
    bif (decide (x.1<aj)) then
     next
    else
     bR (i:Int)) (
    bR (List.length cK.1:Int)) cK.1 0:=by
 exact ca (f:=fun n i=>ng aj fA cK xH JA n bR i) (l:=cK.1) (fun n i h=>by
  simp only[ng]
  rw[decide_eq_true (show(i:Int)<(List.length cK.1:Int) by omega)]
  simp only[cond_true,an h,Int.toNat_natCast,ai _ i h]) (fun n=>by
  simp only[ng]
  rw[decide_eq_false (by omega)]
  simp only[cond_false]) hl cK.1 0 n rfl (by omega) hn
theorem abH {aj:Int} {fA:Int} {cK:QC} {xH:QC} {JA:QC} {bR:Int→Option aa} (hl:(List.length cK.2.1)≤maxLen) {n:Nat} (hn:(List.length cK.2.1)<n):nh aj fA cK xH JA n bR (0:Int)=
  kC (fun(i:Nat) (x:_) (next:Option aa)=>
    bif (decide (x.1<aj)) then
     next
    else
     bR (i:Int)) (
    bR (List.length cK.2.1:Int)) cK.2.1 0:=by
 exact ca (f:=fun n i=>nh aj fA cK xH JA n bR i) (l:=cK.2.1) (fun n i h=>by
  simp only[nh]
  rw[decide_eq_true (show(i:Int)<(List.length cK.2.1:Int) by omega)]
  simp only[cond_true,an h,Int.toNat_natCast,ai _ i h]) (fun n=>by
  simp only[nh]
  rw[decide_eq_false (by omega)]
  simp only[cond_false]) hl cK.2.1 0 n rfl (by omega) hn
theorem afE {N:Nat} {AG:QC} {c8:(List QL)} {s7:QC→Option aa} {ak:QC} (hl:(List.length c8)≤maxLen) {n:Nat} (hn:(List.length c8)<n):vi N AG c8 (List.length c8:Int) n s7 ak (0:Int)=
  bQ (fun(i:Nat) (x:QL) (ak:QC) (next:QC→Option aa)=>
    I13 N ak x (fun(Ft:QC) (aAI:Bool)=>
     next Ft)) (fun(ak:QC)=>
    s7 ak) c8 0 ak:=by
 exact cc (f:=fun n ak i=>vi N AG c8 (List.length c8:Int) n s7 ak i) (l:=c8) (fun n i ak h=>by
  simp only[vi]
  rw[decide_eq_true (show(i:Int)<(List.length c8:Int) by omega)]
  simp only[cond_true,an h,Int.toNat_natCast,ai _ i h]) (fun n ak=>by
  simp only[vi]
  rw[decide_eq_false (by omega)]
  simp only[cond_false]) hl c8 0 n ak rfl (by omega) hn
theorem afF {N:Nat} {aj:(List QL)} {bc:QC} {bR:QC→Option aa} {lz:QC} (hl:(List.length aj)≤maxLen) {n:Nat} (hn:(List.length aj)<n):vj N aj bc n bR lz (0:Int)=
  bQ (fun(i:Nat) (x:QL) (lz:QC) (next:QC→Option aa)=>
    S60 N lz x (fun(xw:QC) (aAJ:Bool)=>
     next xw)) (fun(lz:QC)=>
    bR lz) aj 0 lz:=by
 exact cc (f:=fun n lz i=>vj N aj bc n bR lz i) (l:=aj) (fun n i lz h=>by
  simp only[vj]
  rw[decide_eq_true (show(i:Int)<(List.length aj:Int) by omega)]
  simp only[cond_true,an h,Int.toNat_natCast,ai _ i h]) (fun n lz=>by
  simp only[vj]
  rw[decide_eq_false (by omega)]
  simp only[cond_false]) hl aj 0 n lz rfl (by omega) hn
theorem afG {N:Nat} {ab:(List QL)} {a6:(List QL)→Option aa} {ao:(List QL)} (hl:(List.length ab)≤maxLen) {n:Nat} (hn:(List.length ab)<n):vk N ab n a6 ao (0:Int)=
  bQ (fun(i:Nat) (x:QL) (ao:(List QL)) (next:(List QL)→Option aa)=>
    L61 N x (fun(gm:QL)=>
     bif (aM (i:Int) (List.length ao)) then
      next (List.set ao (Int.toNat (i:Int)) gm)
     else none)) (fun(ao:(List QL))=>
    a6 ao) ab 0 ao:=by
 exact cc (f:=fun n ao i=>vk N ab n a6 ao i) (l:=ab) (fun n i ao h=>by
  simp only[vk]
  rw[decide_eq_true (show(i:Int)<(List.length ab:Int) by omega)]
  simp only[cond_true,an h,Int.toNat_natCast,ai _ i h]) (fun n ao=>by
  simp only[vk]
  rw[decide_eq_false (by omega)]
  simp only[cond_false]) hl ab 0 n ao rfl (by omega) hn
theorem afH {N:Nat} {ab:(List QL)} {aj:(List QL)} {bS:Option aa} {bT:Bool→Option aa} (hl:(List.length ab)≤maxLen) {n:Nat} (hn:(List.length ab)<n):vl N ab aj n bS bT (0:Int)=
  kC (fun(i:Nat) (x:QL) (next:Option aa)=>
    bif (aM (i:Int) (List.length aj)) then
     afe N x (List.getD aj (Int.toNat (i:Int)) mf) (fun(gn:Bool)=>
      bif (!gn) then
       bT false
      else
       next)
    else none) (
    bS) ab 0:=by
 exact ca (f:=fun n i=>vl N ab aj n bS bT i) (l:=ab) (fun n i h=>by
  simp only[vl]
  rw[decide_eq_true (show(i:Int)<(List.length ab:Int) by omega)]
  simp only[cond_true,an h,Int.toNat_natCast,ai _ i h]) (fun n=>by
  simp only[vl]
  rw[decide_eq_false (by omega)]
  simp only[cond_false]) hl ab 0 n rfl (by omega) hn
end Go.Pv.R
