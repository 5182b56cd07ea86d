/- Their loops over lists, without rounds. -/
import Derived.Test.YtcpakhaogbempaaGreatPlRes
namespace Go.Pv.R
set_option linter.unusedVariables false
set_option linter.unusedSimpArgs false
theorem Zc {N:Nat} {eO:(List QT)} {bj:(List QT)→Option aa} {bA:(List QT)} (hl:(List.length eO)≤maxLen) {n:Nat} (hn:(List.length eO)<n):pO N eO (List.length eO:Int) n bj bA (0:Int)=
  bI (fun(i:Nat) (x:QT) (bA:(List QT)) (next:(List QT)→Option aa)=>
    Jc N x.2.2.2.2.2 (fun(sq:(List Int))=>
     bif (decide ((List.length bA+List.length [(x.1,(x.2.1,(x.2.2.1,(x.2.2.2.1,(x.2.2.2.2.1,sq)))))])*6≤4398046511104)) then
      next (bA++[(x.1,(x.2.1,(x.2.2.1,(x.2.2.2.1,(x.2.2.2.2.1,sq)))))])
     else none)) (fun(bA:(List QT))=>
    bj bA) eO 0 bA:=by
 exact bS (f:=fun n bA i=>pO N eO (List.length eO:Int) n bj bA i) (l:=eO) (fun n i bA h=>by
  simp only[pO]
  rw[decide_eq_true (show(i:Int)<(List.length eO:Int) by omega)]
  simp only[cond_true,ak h,Int.toNat_natCast,ah _ i h]) (fun n bA=>by
  simp only[pO]
  rw[decide_eq_false (by omega)]
  simp only[cond_false]) hl eO 0 n bA rfl (by omega) hn
theorem Zd {N:Nat} {eO:(List QJ)} {bj:(List QJ)→Option aa} {bA:(List QJ)} (hl:(List.length eO)≤maxLen) {n:Nat} (hn:(List.length eO)<n):pP N eO (List.length eO:Int) n bj bA (0:Int)=
  bI (fun(i:Nat) (x:QJ) (bA:(List QJ)) (next:(List QJ)→Option aa)=>
    Jc N x.2.2 (fun(sq:(List Int))=>
     bif (decide ((List.length bA+List.length [(x.1,(x.2.1,sq))])*3≤4398046511104)) then
      next (bA++[(x.1,(x.2.1,sq))])
     else none)) (fun(bA:(List QJ))=>
    bj bA) eO 0 bA:=by
 exact bS (f:=fun n bA i=>pP N eO (List.length eO:Int) n bj bA i) (l:=eO) (fun n i bA h=>by
  simp only[pP]
  rw[decide_eq_true (show(i:Int)<(List.length eO:Int) by omega)]
  simp only[cond_true,ak h,Int.toNat_natCast,ah _ i h]) (fun n bA=>by
  simp only[pP]
  rw[decide_eq_false (by omega)]
  simp only[cond_false]) hl eO 0 n bA rfl (by omega) hn
theorem Ze {N:Nat} {ae:(List QT)} {aA:Int} {eZ:Option aa} {e7:Int→Option aa} (hl:(List.length ae)≤maxLen) {n:Nat} (hn:(List.length ae)<n):pQ N ae aA (List.length ae:Int) n eZ e7 (0:Int)=
  mf (fun(i:Nat) (x:QT) (next:Option aa)=>
    aiy N x aA (fun(kW:Bool)=>
     bif kW then
      e7 (i:Int)
     else
      next)) (
    eZ) ae 0:=by
 exact cE (f:=fun n i=>pQ N ae aA (List.length ae:Int) n eZ e7 i) (l:=ae) (fun n i h=>by
  simp only[pQ]
  rw[decide_eq_true (show(i:Int)<(List.length ae:Int) by omega)]
  simp only[cond_true,ak h,Int.toNat_natCast,ah _ i h]) (fun n=>by
  simp only[pQ]
  rw[decide_eq_false (by omega)]
  simp only[cond_false]) hl ae 0 n rfl (by omega) hn
theorem Zf {N:Nat} {ja:(List Int)} {bj:Int→Option aa} {bA:Int} (hl:(List.length ja)≤maxLen) {n:Nat} (hn:(List.length ja)<n):pR N ja (List.length ja:Int) n bj bA (0:Int)=
  bI (fun(i:Nat) (x:Int) (bA:Int) (next:Int→Option aa)=>
    aiB N bA x (fun(acx:Int)=>
     next acx)) (fun(bA:Int)=>
    bj bA) ja 0 bA:=by
 exact bS (f:=fun n bA i=>pR N ja (List.length ja:Int) n bj bA i) (l:=ja) (fun n i bA h=>by
  simp only[pR]
  rw[decide_eq_true (show(i:Int)<(List.length ja:Int) by omega)]
  simp only[cond_true,ak h,Int.toNat_natCast,ah _ i h]) (fun n bA=>by
  simp only[pR]
  rw[decide_eq_false (by omega)]
  simp only[cond_false]) hl ja 0 n bA rfl (by omega) hn
theorem adk {N:Nat} {pS:(List QL)} {dA:Option aa} {iA:Bool→Option aa} {bA:Int} (hl:(List.length pS)≤maxLen) {n:Nat} (hn:(List.length pS)<n):vm N pS (List.length pS:Int) n dA iA bA (0:Int)=
  bI (fun(i:Nat) (x:QL) (bA:Int) (next:Int→Option aa)=>
    bif (x.1 != (IntKind.wrap .i64 ((i:Int)+(1:Int)))) then
     iA false
    else
     eP N x.2.1 (1:Int) (9:Int) (fun(xB:Bool)=>
      bif (!xB) then
       iA false
      else
       eP N x.2.2.1 (0:Int) (99:Int) (fun(Nz:Bool)=>
        bif (!Nz) then
         iA false
        else
         RL N bA x (fun(NA:Int)=>
          bif (x.2.2.2 != NA) then
           iA false
          else
           next x.2.2.2)))) (fun(bA:Int)=>
    dA) pS 0 bA:=by
 exact bS (f:=fun n bA i=>vm N pS (List.length pS:Int) n dA iA bA i) (l:=pS) (fun n i bA h=>by
  simp only[vm]
  rw[decide_eq_true (show(i:Int)<(List.length pS:Int) by omega)]
  simp only[cond_true,ak h,Int.toNat_natCast,ah _ i h]) (fun n bA=>by
  simp only[vm]
  rw[decide_eq_false (by omega)]
  simp only[cond_false]) hl pS 0 n bA rfl (by omega) hn
theorem adl {fj:Int} {fY:(List Int)} {bc:Int→Option aa} {bX:Int} (hl:(List.length fY)≤maxLen) {n:Nat} (hn:(List.length fY)<n):su fj fY (List.length fY:Int) n bc bX (0:Int)=
  bI (fun(i:Nat) (x:Int) (bX:Int) (next:Int→Option aa)=>
    bif (x==fj) then
     next (IntKind.wrap .i64 (bX+(1:Int)))
    else
     next bX) (fun(bX:Int)=>
    bc bX) fY 0 bX:=by
 exact bS (f:=fun n bX i=>su fj fY (List.length fY:Int) n bc bX i) (l:=fY) (fun n i bX h=>by
  simp only[su]
  rw[decide_eq_true (show(i:Int)<(List.length fY:Int) by omega)]
  simp only[cond_true,ak h,Int.toNat_natCast,ah _ i h]) (fun n bX=>by
  simp only[su]
  rw[decide_eq_false (by omega)]
  simp only[cond_false]) hl fY 0 n bX rfl (by omega) hn
theorem Sq {N:Nat} {uy:(List QT)} {uz:QT} {Jd:(List QT)} {Je:Int} {Jf:Int} {gS:(List Int)} {ov:Option aa} {ia:Bool→Option aa} (hl:(List.length gS)≤maxLen) {n:Nat} (hn:(List.length gS)<n):hZ N uy uz Jd Je Jf gS (List.length gS:Int) n ov ia (0:Int)=
  mf (fun(i:Nat) (x:Int) (next:Option aa)=>
    Ny N uy x (fun(vn:Int)=>
     bif (decide (vn<(0:Int))) then
      ia false
     else
      bif (x==uz.1) then
       ia false
      else
       bif (aQ vn (List.length uy)) then
        I78 N uz.2.2.2.2.2 x (fun(RM:Int)=>
         I78 N (List.getD uy (Int.toNat vn) aj).2.2.2.2.2 uz.1 (fun(Jg:Int)=>
          bif (RM != Jg) then
           ia false
          else
           next))
       else none)) (
    ov) gS 0:=by
 exact cE (f:=fun n i=>hZ N uy uz Jd Je Jf gS (List.length gS:Int) n ov ia i) (l:=gS) (fun n i h=>by
  simp only[hZ]
  rw[decide_eq_true (show(i:Int)<(List.length gS:Int) by omega)]
  simp only[cond_true,ak h,Int.toNat_natCast,ah _ i h]) (fun n=>by
  simp only[hZ]
  rw[decide_eq_false (by omega)]
  simp only[cond_false]) hl gS 0 n rfl (by omega) hn
theorem Zg {N:Nat} {ae:(List QT)} {cF:(List QT)} {pT:Option aa} {bD:Bool→Option aa} (hl:(List.length cF)≤maxLen) {n:Nat} (hn:(List.length cF)<n):ng N ae cF (List.length cF:Int) n pT bD (0:Int)=
  mf (fun(i:Nat) (x:QT) (next:Option aa)=>
    eP N x.1 (1:Int) (99:Int) (fun(xB:Bool)=>
     bif (!xB) then
      bD false
     else
      bif (decide ((i:Int)>(0:Int))) then
       bif (aQ (IntKind.wrap .i64 ((i:Int) - (1:Int))) (List.length ae)) then
        bif (decide (x.1≤(List.getD ae (Int.toNat (IntKind.wrap .i64 ((i:Int) - (1:Int)))) aj).1)) then
         bD false
        else
         eP N x.2.1 (1:Int) (99:Int) (fun(acB:Bool)=>
          bif (!acB) then
           bD false
          else
           bif (decide ((List.length x.2.2.2.2.2:Int)>(20:Int))) then
            bD false
           else
            eP N x.2.2.1 (0:Int) (List.length x.2.2.2.2.2:Int) (fun(H6:Bool)=>
             bif (!H6) then
              bD false
             else
              eP N x.2.2.2.2.1 (0:Int) (List.length x.2.2.2.2.2:Int) (fun(acC:Bool)=>
               bif (!acC) then
                bD false
               else
                eP N x.2.2.2.1 (0:Int) (100000:Int) (fun(RN:Bool)=>
                 bif (!RN) then
                  bD false
                 else
                  hZ N ae x cF (List.length cF:Int) (i:Int) x.2.2.2.2.2 (List.length x.2.2.2.2.2:Int) N next bD (0:Int)))))
       else none
      else
       eP N x.2.1 (1:Int) (99:Int) (fun(RO:Bool)=>
        bif (!RO) then
         bD false
        else
         bif (decide ((List.length x.2.2.2.2.2:Int)>(20:Int))) then
          bD false
         else
          eP N x.2.2.1 (0:Int) (List.length x.2.2.2.2.2:Int) (fun(RP:Bool)=>
           bif (!RP) then
            bD false
           else
            eP N x.2.2.2.2.1 (0:Int) (List.length x.2.2.2.2.2:Int) (fun(pU:Bool)=>
             bif (!pU) then
              bD false
             else
              eP N x.2.2.2.1 (0:Int) (100000:Int) (fun(RQ:Bool)=>
               bif (!RQ) then
                bD false
               else
                hZ N ae x cF (List.length cF:Int) (i:Int) x.2.2.2.2.2 (List.length x.2.2.2.2.2:Int) N next bD (0:Int))))))) (
    pT) cF 0:=by
 exact cE (f:=fun n i=>ng N ae cF (List.length cF:Int) n pT bD i) (l:=cF) (fun n i h=>by
  simp only[ng,Dm]
  rw[decide_eq_true (show(i:Int)<(List.length cF:Int) by omega)]
  simp only[cond_true,ak h,Int.toNat_natCast,ah _ i h]) (fun n=>by
  simp only[ng,Dm]
  rw[decide_eq_false (by omega)]
  simp only[cond_false]) hl cF 0 n rfl (by omega) hn
theorem adm {N:Nat} {NB:(List QJ)} {e8:QJ} {ET:(List QJ)} {EU:Int} {EV:Int} {gT:(List Int)} {pV:Option aa} {lJ:Bool→Option aa} (hl:(List.length gT)≤maxLen) {n:Nat} (hn:(List.length gT)<n):mF N NB e8 ET EU EV gT (List.length gT:Int) n pV lJ (0:Int)=
  mf (fun(i:Nat) (x:Int) (next:Option aa)=>
    eP N x (1:Int) (99:Int) (fun(RS:Bool)=>
     bif (!RS) then
      lJ false
     else
      bif (decide ((i:Int)>(0:Int))) then
       bif (aQ (IntKind.wrap .i64 ((i:Int) - (1:Int))) (List.length e8.2.2)) then
        bif (decide (x≤(List.getD e8.2.2 (Int.toNat (IntKind.wrap .i64 ((i:Int) - (1:Int)))) (0:Int)))) then
         lJ false
        else
         next
       else none
      else
       next)) (
    pV) gT 0:=by
 exact cE (f:=fun n i=>mF N NB e8 ET EU EV gT (List.length gT:Int) n pV lJ i) (l:=gT) (fun n i h=>by
  simp only[mF]
  rw[decide_eq_true (show(i:Int)<(List.length gT:Int) by omega)]
  simp only[cond_true,ak h,Int.toNat_natCast,ah _ i h]) (fun n=>by
  simp only[mF]
  rw[decide_eq_false (by omega)]
  simp only[cond_false]) hl gT 0 n rfl (by omega) hn
theorem adn {N:Nat} {ae:(List QJ)} {eD:(List QJ)} {pX:Option aa} {dB:Bool→Option aa} (hl:(List.length eD)≤maxLen) {n:Nat} (hn:(List.length eD)<n):sv N ae eD (List.length eD:Int) n pX dB (0:Int)=
  mf (fun(i:Nat) (x:QJ) (next:Option aa)=>
    eP N x.1 (1:Int) (99:Int) (fun(acD:Bool)=>
     bif (!acD) then
      dB false
     else
      bif (decide ((i:Int)>(0:Int))) then
       bif (aQ (IntKind.wrap .i64 ((i:Int) - (1:Int))) (List.length ae)) then
        bif (decide (x.1≤(List.getD ae (Int.toNat (IntKind.wrap .i64 ((i:Int) - (1:Int)))) cg).1)) then
         dB false
        else
         eP N x.2.1 (1:Int) (99:Int) (fun(acE:Bool)=>
          bif (!acE) then
           dB false
          else
           mF N ae x eD (List.length eD:Int) (i:Int) x.2.2 (List.length x.2.2:Int) N next dB (0:Int))
       else none
      else
       eP N x.2.1 (1:Int) (99:Int) (fun(sw:Bool)=>
        bif (!sw) then
         dB false
        else
         mF N ae x eD (List.length eD:Int) (i:Int) x.2.2 (List.length x.2.2:Int) N next dB (0:Int)))) (
    pX) eD 0:=by
 exact cE (f:=fun n i=>sv N ae eD (List.length eD:Int) n pX dB i) (l:=eD) (fun n i h=>by
  simp only[sv,Jh]
  rw[decide_eq_true (show(i:Int)<(List.length eD:Int) by omega)]
  simp only[cond_true,ak h,Int.toNat_natCast,ah _ i h]) (fun n=>by
  simp only[sv,Jh]
  rw[decide_eq_false (by omega)]
  simp only[cond_false]) hl eD 0 n rfl (by omega) hn
theorem Ia {ae:(List Int)} {aA:Int} {Aq:Option aa} {Ar:Int→Option aa} (hl:(List.length ae)≤maxLen) {n:Nat} (hn:(List.length ae)<n):pY ae aA (List.length ae:Int) n Aq Ar (0:Int)=
  mf (fun(i:Nat) (x:Int) (next:Option aa)=>
    bif (aA==x) then
     Ar (i:Int)
    else
     next) (
    Aq) ae 0:=by
 exact cE (f:=fun n i=>pY ae aA (List.length ae:Int) n Aq Ar i) (l:=ae) (fun n i h=>by
  simp only[pY]
  rw[decide_eq_true (show(i:Int)<(List.length ae:Int) by omega)]
  simp only[cond_true,ak h,Int.toNat_natCast,ah _ i h]) (fun n=>by
  simp only[pY]
  rw[decide_eq_false (by omega)]
  simp only[cond_false]) hl ae 0 n rfl (by omega) hn
theorem Zh {N:Nat} {H7:(List Int)} {jA:(List QT)} {oy:Option aa} {oz:Bool→Option aa} (hl:(List.length jA)≤maxLen) {n:Nat} (hn:(List.length jA)<n):pZ N H7 jA (List.length jA:Int) n oy oz (0:Int)=
  mf (fun(i:Nat) (x:QT) (next:Option aa)=>
    I78 N H7 x.1 (fun(RU:Int)=>
     bif (RU != (1:Int)) then
      oz false
     else
      next)) (
    oy) jA 0:=by
 exact cE (f:=fun n i=>pZ N H7 jA (List.length jA:Int) n oy oz i) (l:=jA) (fun n i h=>by
  simp only[pZ]
  rw[decide_eq_true (show(i:Int)<(List.length jA:Int) by omega)]
  simp only[cond_true,ak h,Int.toNat_natCast,ah _ i h]) (fun n=>by
  simp only[pZ]
  rw[decide_eq_false (by omega)]
  simp only[cond_false]) hl jA 0 n rfl (by omega) hn
theorem ado {N:Nat} {ae:(List QT)} {bn:(List bJ)} {bc:(List Int)→Option aa} {fC:Bool→Option aa} {bX:(List Int)} (hl:(List.length bn)≤maxLen) {n:Nat} (hn:(List.length bn)<n):vo N ae bn (List.length bn:Int) n bc fC bX (0:Int)=
  bI (fun(i:Nat) (x:bJ) (bX:(List Int)) (next:(List Int)→Option aa)=>
    I77 N ae x.1 x.2 (fun(kY:Bool)=>
     bif (!kY) then
      fC false
     else
      bif (decide ((List.length bX+List.length [x.1,x.2])*1≤4398046511104)) then
       next (bX++[x.1,x.2])
      else none)) (fun(bX:(List Int))=>
    bc bX) bn 0 bX:=by
 exact bS (f:=fun n bX i=>vo N ae bn (List.length bn:Int) n bc fC bX i) (l:=bn) (fun n i bX h=>by
  simp only[vo]
  rw[decide_eq_true (show(i:Int)<(List.length bn:Int) by omega)]
  simp only[cond_true,ak h,Int.toNat_natCast,ah _ i h]) (fun n bX=>by
  simp only[vo]
  rw[decide_eq_false (by omega)]
  simp only[cond_false]) hl bn 0 n bX rfl (by omega) hn
theorem adp {N:Nat} {ae:(List QJ)} {aA:Int} {eZ:Option aa} {e7:Int→Option aa} (hl:(List.length ae)≤maxLen) {n:Nat} (hn:(List.length ae)<n):vp N ae aA (List.length ae:Int) n eZ e7 (0:Int)=
  mf (fun(i:Nat) (x:QJ) (next:Option aa)=>
    I81 N x aA (fun(kW:Bool)=>
     bif kW then
      e7 (i:Int)
     else
      next)) (
    eZ) ae 0:=by
 exact cE (f:=fun n i=>vp N ae aA (List.length ae:Int) n eZ e7 i) (l:=ae) (fun n i h=>by
  simp only[vp]
  rw[decide_eq_true (show(i:Int)<(List.length ae:Int) by omega)]
  simp only[cond_true,ak h,Int.toNat_natCast,ah _ i h]) (fun n=>by
  simp only[vp]
  rw[decide_eq_false (by omega)]
  simp only[cond_false]) hl ae 0 n rfl (by omega) hn
theorem adq {N:Nat} {ae:(List QT)} {As:QJ} {mG:(List Int)} {sx:Option aa} {kF:Bool→Option aa} (hl:(List.length mG)≤maxLen) {n:Nat} (hn:(List.length mG)<n):vq N ae As mG (List.length mG:Int) n sx kF (0:Int)=
  mf (fun(i:Nat) (x:Int) (next:Option aa)=>
    Ny N ae x (fun(kY:Int)=>
     bif (decide (kY<(0:Int))) then
      kF false
     else
      bif (aQ kY (List.length ae)) then
       bif ((List.getD ae (Int.toNat kY) aj).2.1==As.2.1) then
        kF false
       else
        S82 N As.2.2 x (fun(sw:Bool)=>
         bif sw then
          kF false
         else
          next)
      else none)) (
    sx) mG 0:=by
 exact cE (f:=fun n i=>vq N ae As mG (List.length mG:Int) n sx kF i) (l:=mG) (fun n i h=>by
  simp only[vq]
  rw[decide_eq_true (show(i:Int)<(List.length mG:Int) by omega)]
  simp only[cond_true,ak h,Int.toNat_natCast,ah _ i h]) (fun n=>by
  simp only[vq]
  rw[decide_eq_false (by omega)]
  simp only[cond_false]) hl mG 0 n rfl (by omega) hn
theorem adr {N:Nat} {Au:(List QT)} {jU:(List QJ)} {km:(List bJ)} {jc:(List Int)} {mH:(List Int)} {tu:Option aa} {kG:Bool→Option aa} (hl:(List.length mH)≤maxLen) {n:Nat} (hn:(List.length mH)<n):vt N Au jU km jc mH (List.length mH:Int) n tu kG (0:Int)=
  mf (fun(i:Nat) (x:Int) (next:Option aa)=>
    S80 N jU x (fun(vu:Int)=>
     bif (decide (vu<(0:Int))) then
      kG false
     else
      bif (decide ((0:Int)≤(0:Int))&&decide ((0:Int)≤(i:Int))&&decide ((i:Int)≤(List.length jc:Int))) then
       S82 N (List.drop (Int.toNat (0:Int)) (List.take (Int.toNat (i:Int)) jc)) x (fun(RV:Bool)=>
        bif RV then
         kG false
        else
         bif (aQ vu (List.length jU)) then
          bif (aQ (i:Int) (List.length km)) then
           I83 N Au (List.getD jU (Int.toNat vu) cg) (List.getD km (Int.toNat (i:Int)) dm) (fun(RW:Bool)=>
            bif (!RW) then
             kG false
            else
             next)
          else none
         else none)
      else none)) (
    tu) mH 0:=by
 exact cE (f:=fun n i=>vt N Au jU km jc mH (List.length mH:Int) n tu kG i) (l:=mH) (fun n i h=>by
  simp only[vt]
  rw[decide_eq_true (show(i:Int)<(List.length mH:Int) by omega)]
  simp only[cond_true,ak h,Int.toNat_natCast,ah _ i h]) (fun n=>by
  simp only[vt]
  rw[decide_eq_false (by omega)]
  simp only[cond_false]) hl mH 0 n rfl (by omega) hn
theorem Zi {kX:(List QT)} {Aw:Int→Option aa} {ai:Int} (hl:(List.length kX)≤maxLen) {n:Nat} (hn:(List.length kX)<n):p4 kX (List.length kX:Int) n Aw ai (0:Int)=
  bI (fun(i:Nat) (x:QT) (ai:Int) (next:Int→Option aa)=>
    next (IntKind.wrap .i64 (ai+x.2.2.1))) (fun(ai:Int)=>
    Aw ai) kX 0 ai:=by
 exact bS (f:=fun n ai i=>p4 kX (List.length kX:Int) n Aw ai i) (l:=kX) (fun n i ai h=>by
  simp only[p4]
  rw[decide_eq_true (show(i:Int)<(List.length kX:Int) by omega)]
  simp only[cond_true,ak h,Int.toNat_natCast,ah _ i h]) (fun n ai=>by
  simp only[p4]
  rw[decide_eq_false (by omega)]
  simp only[cond_false]) hl kX 0 n ai rfl (by omega) hn
theorem ads {N:Nat} {iK:QC} {jB:(List QB)} {p5:Option aa} {lK:Bool→Option aa} (hl:(List.length jB)≤maxLen) {n:Nat} (hn:(List.length jB)<n):sy N iK jB (List.length jB:Int) n p5 lK (0:Int)=
  mf (fun(i:Nat) (x:QB) (next:Option aa)=>
    bif (!((decide ((x.1:Int)=(0:Int)))&&((decide ((x.2.1:Int)=(0:Int)))&&(decide ((x.2.2:Int)=(0:Int)))))) then
     NC N x (fun(RY:Bool)=>
      bif (!RY) then
       lK false
      else
       bif (aQ (i:Int) (List.length iK.2.2.2.1)) then
        bif (x.1 != (List.getD iK.2.2.2.1 (Int.toNat (i:Int)) (0:Int))) then
         lK false
        else
         next
       else none)
    else
     next) (
    p5) jB 0:=by
 exact cE (f:=fun n i=>sy N iK jB (List.length jB:Int) n p5 lK i) (l:=jB) (fun n i h=>by
  simp only[sy]
  rw[decide_eq_true (show(i:Int)<(List.length jB:Int) by omega)]
  simp only[cond_true,ak h,Int.toNat_natCast,ah _ i h]) (fun n=>by
  simp only[sy]
  rw[decide_eq_false (by omega)]
  simp only[cond_false]) hl jB 0 n rfl (by omega) hn
theorem adt {YV:Int} {aiF:Int} {aiG:QC} {lL:QC} {xD:QC} {nh:Int→Option aa} (hl:(List.length xD.1)≤maxLen) {n:Nat} (hn:(List.length xD.1)<n):sz YV aiF aiG lL xD n nh (0:Int)=
  mf (fun(i:Nat) (x:_) (next:Option aa)=>
    bif (decide (x.1<YV)) then
     next
    else
     nh (i:Int)) (
    nh (List.length xD.1:Int)) xD.1 0:=by
 exact cE (f:=fun n i=>sz YV aiF aiG lL xD n nh i) (l:=xD.1) (fun n i h=>by
  simp only[sz]
  rw[decide_eq_true (show(i:Int)<(List.length xD.1:Int) by omega)]
  simp only[cond_true,ak h,Int.toNat_natCast,ah _ i h]) (fun n=>by
  simp only[sz]
  rw[decide_eq_false (by omega)]
  simp only[cond_false]) hl xD.1 0 n rfl (by omega) hn
theorem Zj {N:Nat} {ae:(List QJ)} {aA:Int} {eZ:Option aa} {e7:Int→Option aa} (hl:(List.length ae)≤maxLen) {n:Nat} (hn:(List.length ae)<n):p6 N ae aA (List.length ae:Int) n eZ e7 (0:Int)=
  mf (fun(i:Nat) (x:QJ) (next:Option aa)=>
    aiH N x aA (fun(kW:Bool)=>
     bif kW then
      e7 (i:Int)
     else
      next)) (
    eZ) ae 0:=by
 exact cE (f:=fun n i=>p6 N ae aA (List.length ae:Int) n eZ e7 i) (l:=ae) (fun n i h=>by
  simp only[p6]
  rw[decide_eq_true (show(i:Int)<(List.length ae:Int) by omega)]
  simp only[cond_true,ak h,Int.toNat_natCast,ah _ i h]) (fun n=>by
  simp only[p6]
  rw[decide_eq_false (by omega)]
  simp only[cond_false]) hl ae 0 n rfl (by omega) hn
theorem adu {jU:Int} {km:Int} {jc:QC} {aiJ:QC} {xE:QC} {ck:Int→Option aa} (hl:(List.length xE.2.1)≤maxLen) {n:Nat} (hn:(List.length xE.2.1)<n):sA jU km jc aiJ xE n ck (0:Int)=
  mf (fun(i:Nat) (x:_) (next:Option aa)=>
    bif (decide (x.1<jU)) then
     next
    else
     ck (i:Int)) (
    ck (List.length xE.2.1:Int)) xE.2.1 0:=by
 exact cE (f:=fun n i=>sA jU km jc aiJ xE n ck i) (l:=xE.2.1) (fun n i h=>by
  simp only[sA]
  rw[decide_eq_true (show(i:Int)<(List.length xE.2.1:Int) by omega)]
  simp only[cond_true,ak h,Int.toNat_natCast,ah _ i h]) (fun n=>by
  simp only[sA]
  rw[decide_eq_false (by omega)]
  simp only[cond_false]) hl xE.2.1 0 n rfl (by omega) hn
theorem Zk {bA:Int} {ja:(List Int)} {ee:Option aa} {Ax:Int→Option aa} (hl:(List.length ja)≤maxLen) {n:Nat} (hn:(List.length ja)<n):p7 bA ja (List.length ja:Int) n ee Ax (0:Int)=
  mf (fun(i:Nat) (x:Int) (next:Option aa)=>
    bif (x != bA) then
     Ax x
    else
     next) (
    ee) ja 0:=by
 exact cE (f:=fun n i=>p7 bA ja (List.length ja:Int) n ee Ax i) (l:=ja) (fun n i h=>by
  simp only[p7]
  rw[decide_eq_true (show(i:Int)<(List.length ja:Int) by omega)]
  simp only[cond_true,ak h,Int.toNat_natCast,ah _ i h]) (fun n=>by
  simp only[p7]
  rw[decide_eq_false (by omega)]
  simp only[cond_false]) hl ja 0 n rfl (by omega) hn
theorem Zl {ib:(List QT)} {Ay:(List Int)→Option aa} {cv:(List Int)} (hl:(List.length ib)≤maxLen) {n:Nat} (hn:(List.length ib)<n):p9 ib (List.length ib:Int) n Ay cv (0:Int)=
  bI (fun(i:Nat) (x:QT) (cv:(List Int)) (next:(List Int)→Option aa)=>
    bif (decide ((List.length cv+List.length [x.1])*1≤4398046511104)) then
     next (cv++[x.1])
    else none) (fun(cv:(List Int))=>
    Ay cv) ib 0 cv:=by
 exact bS (f:=fun n cv i=>p9 ib (List.length ib:Int) n Ay cv i) (l:=ib) (fun n i cv h=>by
  simp only[p9]
  rw[decide_eq_true (show(i:Int)<(List.length ib:Int) by omega)]
  simp only[cond_true,ak h,Int.toNat_natCast,ah _ i h]) (fun n cv=>by
  simp only[p9]
  rw[decide_eq_false (by omega)]
  simp only[cond_false]) hl ib 0 n cv rfl (by omega) hn
theorem Sr {iL:(List (List Int))} {oD:(List Int)→Option aa} {lA:(List Int)} (hl:(List.length iL)≤maxLen) {n:Nat} (hn:(List.length iL)<n):kZ iL (List.length iL:Int) n oD lA (0:Int)=
  bI (fun(i:Nat) (x:(List Int)) (lA:(List Int)) (next:(List Int)→Option aa)=>
    bif (decide ((List.length lA+List.length x)*1≤4398046511104)) then
     next (lA++x)
    else none) (fun(lA:(List Int))=>
    oD lA) iL 0 lA:=by
 exact bS (f:=fun n lA i=>kZ iL (List.length iL:Int) n oD lA i) (l:=iL) (fun n i lA h=>by
  simp only[kZ]
  rw[decide_eq_true (show(i:Int)<(List.length iL:Int) by omega)]
  simp only[cond_true,ak h,Int.toNat_natCast,ah _ i h]) (fun n lA=>by
  simp only[kZ]
  rw[decide_eq_false (by omega)]
  simp only[cond_false]) hl iL 0 n lA rfl (by omega) hn
theorem Zm {ae:(List (List Int))} {e9:(List (List Int))} {bj:Int→Option aa} {ai:Int} (hl:(List.length e9)≤maxLen) {n:Nat} (hn:(List.length e9)<n):qa ae e9 (List.length e9:Int) n bj ai (0:Int)=
  bI (fun(i:Nat) (x:(List Int)) (ai:Int) (next:Int→Option aa)=>
    bif (decide ((IntKind.wrap .i64 (ai+(List.length x:Int)))<(0:Int))) then
     none
    else
     next (IntKind.wrap .i64 (ai+(List.length x:Int)))) (fun(ai:Int)=>
    bj ai) e9 0 ai:=by
 exact bS (f:=fun n ai i=>qa ae e9 (List.length e9:Int) n bj ai i) (l:=e9) (fun n i ai h=>by
  simp only[qa]
  rw[decide_eq_true (show(i:Int)<(List.length e9:Int) by omega)]
  simp only[cond_true,ak h,Int.toNat_natCast,ah _ i h]) (fun n ai=>by
  simp only[qa]
  rw[decide_eq_false (by omega)]
  simp only[cond_false]) hl e9 0 n ai rfl (by omega) hn
theorem adv {gG:(List QB)} {bj:(List Int)→Option aa} {bA:(List Int)} (hl:(List.length gG)≤maxLen) {n:Nat} (hn:(List.length gG)<n):sC gG (List.length gG:Int) n bj bA (0:Int)=
  bI (fun(i:Nat) (x:QB) (bA:(List Int)) (next:(List Int)→Option aa)=>
    bif ((decide ((x.1:Int)=(0:Int)))&&((decide ((x.2.1:Int)=(0:Int)))&&(decide ((x.2.2:Int)=(0:Int))))) then
     bif (decide ((List.length bA+List.length [(i:Int)])*1≤4398046511104)) then
      next (bA++[(i:Int)])
     else none
    else
     next bA) (fun(bA:(List Int))=>
    bj bA) gG 0 bA:=by
 exact bS (f:=fun n bA i=>sC gG (List.length gG:Int) n bj bA i) (l:=gG) (fun n i bA h=>by
  simp only[sC]
  rw[decide_eq_true (show(i:Int)<(List.length gG:Int) by omega)]
  simp only[cond_true,ak h,Int.toNat_natCast,ah _ i h]) (fun n bA=>by
  simp only[sC]
  rw[decide_eq_false (by omega)]
  simp only[cond_false]) hl gG 0 n bA rfl (by omega) hn
theorem Zn {N:Nat} {ae:(List QB)} {gG:(List QB)} {iM:Option aa} {qc:Bool→Option aa} (hl:(List.length gG)≤maxLen) {n:Nat} (hn:(List.length gG)<n):nk N ae gG (List.length gG:Int) n iM qc (0:Int)=
  mf (fun(i:Nat) (x:QB) (next:Option aa)=>
    NC N x (fun(kW:Bool)=>
     bif (!kW) then
      qc false
     else
      bif (decide ((i:Int)>(0:Int))) then
       bif (aQ (IntKind.wrap .i64 ((i:Int) - (1:Int))) (List.length ae)) then
        bif (decide (x.1≤(List.getD ae (Int.toNat (IntKind.wrap .i64 ((i:Int) - (1:Int)))) gQ).1)) then
         qc false
        else
         next
       else none
      else
       next)) (
    iM) gG 0:=by
 exact cE (f:=fun n i=>nk N ae gG (List.length gG:Int) n iM qc i) (l:=gG) (fun n i h=>by
  simp only[nk]
  rw[decide_eq_true (show(i:Int)<(List.length gG:Int) by omega)]
  simp only[cond_true,ak h,Int.toNat_natCast,ah _ i h]) (fun n=>by
  simp only[nk]
  rw[decide_eq_false (by omega)]
  simp only[cond_false]) hl gG 0 n rfl (by omega) hn
theorem Zo {N:Nat} {aA:Int} {aV:(List QB)} {ck:Int→Option aa} {aG:Int} (hl:(List.length aV)≤maxLen) {n:Nat} (hn:(List.length aV)<n):nm N aA aV (List.length aV:Int) n ck aG (0:Int)=
  bI (fun(i:Nat) (x:QB) (aG:Int) (next:Int→Option aa)=>
    Y1 N x (fun(xF:Int)=>
     bif (xF==aA) then
      next (IntKind.wrap .i64 (aG+(1:Int)))
     else
      next aG)) (fun(aG:Int)=>
    ck aG) aV 0 aG:=by
 exact bS (f:=fun n aG i=>nm N aA aV (List.length aV:Int) n ck aG i) (l:=aV) (fun n i aG h=>by
  simp only[nm]
  rw[decide_eq_true (show(i:Int)<(List.length aV:Int) by omega)]
  simp only[cond_true,ak h,Int.toNat_natCast,ah _ i h]) (fun n aG=>by
  simp only[nm]
  rw[decide_eq_false (by omega)]
  simp only[cond_false]) hl aV 0 n aG rfl (by omega) hn
theorem AE {aA:Int} {aV:(List QB)} {dA:Int→Option aa} {aG:Int} (hl:(List.length aV)≤maxLen) {n:Nat} (hn:(List.length aV)<n):lM aA aV (List.length aV:Int) n dA aG (0:Int)=
  bI (fun(i:Nat) (x:QB) (aG:Int) (next:Int→Option aa)=>
    bif (aA==(1:Int)) then
     next (IntKind.wrap .i64 (aG+x.2.1))
    else
     bif (aA==(2:Int)) then
      next (IntKind.wrap .i64 (aG+x.2.2))
     else
      next aG) (fun(aG:Int)=>
    dA aG) aV 0 aG:=by
 exact bS (f:=fun n aG i=>lM aA aV (List.length aV:Int) n dA aG i) (l:=aV) (fun n i aG h=>by
  simp only[lM]
  rw[decide_eq_true (show(i:Int)<(List.length aV:Int) by omega)]
  simp only[cond_true,ak h,Int.toNat_natCast,ah _ i h]) (fun n aG=>by
  simp only[lM]
  rw[decide_eq_false (by omega)]
  simp only[cond_false]) hl aV 0 n aG rfl (by omega) hn
theorem adw {N:Nat} {iK:QC} {YZ:QC} {fD:(List bJ)} {tz:QC→Option aa} {tC:QC→Bool→Option aa} {ig:QC} (hl:(List.length fD)≤maxLen) {n:Nat} (hn:(List.length fD)<n):vz N iK YZ fD (List.length fD:Int) n tz tC ig (0:Int)=
  bI (fun(i:Nat) (x:bJ) (ig:QC) (next:QC→Option aa)=>
    bif (aQ (i:Int) (List.length iK.2.2.2.2.1)) then
     Y2 N [(List.getD iK.2.2.2.2.1 (Int.toNat (i:Int)) gQ)] (fun(E5:Int)=>
      Y3 N ig.1 x.1 x.2 E5 (List.getD iK.2.2.2.2.1 (Int.toNat (i:Int)) gQ).2.1 (List.getD iK.2.2.2.2.1 (Int.toNat (i:Int)) gQ).2.2 (fun(E6:(List QT)) (E7:Bool)=>
       bif (!E7) then
        H5 N iK (fun(E8:QC)=>
         tC E8 false)
       else
        bif (aQ (i:Int) (List.length iK.2.2.2.1)) then
         RZ N ig.2.1 (List.getD iK.2.2.2.1 (Int.toNat (i:Int)) (0:Int)) (fun(cP:Int)=>
          bif (aQ cP (List.length ig.2.1)) then
           bif (decide ((List.length (List.getD ig.2.1 (Int.toNat cP) cg).2.2+List.length [x.1,x.2])*1≤4398046511104)) then
            NL N ((List.getD ig.2.1 (Int.toNat cP) cg).2.2++[x.1,x.2]) (fun(E9:(List Int))=>
             Y4 N E9 (fun(Fa:(List Int))=>
              bif (aQ cP (List.length ig.2.1)) then
               bif (Nat.beq (Int.toNat cP) (Int.toNat cP)) then
                next (E6,((List.set ig.2.1 (Int.toNat cP) ((List.getD ig.2.1 (Int.toNat cP) cg).1,((List.getD ig.2.1 (Int.toNat cP) cg).2.1,Fa))),ig.2.2))
               else none
              else none))
           else none
          else none)
        else none))
    else none) (fun(ig:QC)=>
    tz ig) fD 0 ig:=by
 exact bS (f:=fun n ig i=>vz N iK YZ fD (List.length fD:Int) n tz tC ig i) (l:=fD) (fun n i ig h=>by
  simp only[vz]
  rw[decide_eq_true (show(i:Int)<(List.length fD:Int) by omega)]
  simp only[cond_true,ak h,Int.toNat_natCast,ah _ i h]) (fun n ig=>by
  simp only[vz]
  rw[decide_eq_false (by omega)]
  simp only[cond_false]) hl fD 0 n ig rfl (by omega) hn
theorem Zp {ae:(List QT)} {gA:(List QT)→Option aa} {ai:(List QT)} (hl:(List.length ae)≤maxLen) {n:Nat} (hn:(List.length ae)<n):qd ae n gA ai (0:Int)=
  bI (fun(i:Nat) (x:QT) (ai:(List QT)) (next:(List QT)→Option aa)=>
    bif (decide ((List.length ([]:(List Int))+List.length x.2.2.2.2.2)*1≤4398046511104)) then
     bif (decide ((List.length ai+List.length [(x.1,(x.2.1,(x.2.2.1,(x.2.2.2.1,(x.2.2.2.2.1,(([]:(List Int))++x.2.2.2.2.2))))))])*6≤4398046511104)) then
      next (ai++[(x.1,(x.2.1,(x.2.2.1,(x.2.2.2.1,(x.2.2.2.2.1,(([]:(List Int))++x.2.2.2.2.2))))))])
     else none
    else none) (fun(ai:(List QT))=>
    gA ai) ae 0 ai:=by
 exact bS (f:=fun n ai i=>qd ae n gA ai i) (l:=ae) (fun n i ai h=>by
  simp only[qd]
  rw[decide_eq_true (show(i:Int)<(List.length ae:Int) by omega)]
  simp only[cond_true,ak h,Int.toNat_natCast,ah _ i h]) (fun n ai=>by
  simp only[qd]
  rw[decide_eq_false (by omega)]
  simp only[cond_false]) hl ae 0 n ai rfl (by omega) hn
theorem Zq {ae:(List QJ)} {gA:(List QJ)→Option aa} {ai:(List QJ)} (hl:(List.length ae)≤maxLen) {n:Nat} (hn:(List.length ae)<n):qe ae n gA ai (0:Int)=
  bI (fun(i:Nat) (x:QJ) (ai:(List QJ)) (next:(List QJ)→Option aa)=>
    bif (decide ((List.length ([]:(List Int))+List.length x.2.2)*1≤4398046511104)) then
     bif (decide ((List.length ai+List.length [(x.1,(x.2.1,(([]:(List Int))++x.2.2)))])*3≤4398046511104)) then
      next (ai++[(x.1,(x.2.1,(([]:(List Int))++x.2.2)))])
     else none
    else none) (fun(ai:(List QJ))=>
    gA ai) ae 0 ai:=by
 exact bS (f:=fun n ai i=>qe ae n gA ai i) (l:=ae) (fun n i ai h=>by
  simp only[qe]
  rw[decide_eq_true (show(i:Int)<(List.length ae:Int) by omega)]
  simp only[cond_true,ak h,Int.toNat_natCast,ah _ i h]) (fun n ai=>by
  simp only[qe]
  rw[decide_eq_false (by omega)]
  simp only[cond_false]) hl ae 0 n ai rfl (by omega) hn
theorem Zr {ae:(List QT)} {aA:Int} {bT:Option aa} {cK:Int→Option aa} (hl:(List.length ae)≤maxLen) {n:Nat} (hn:(List.length ae)<n):qf ae aA n bT cK (0:Int)=
  mf (fun(i:Nat) (x:QT) (next:Option aa)=>
    bif (x.1==aA) then
     cK (i:Int)
    else
     next) (
    bT) ae 0:=by
 exact cE (f:=fun n i=>qf ae aA n bT cK i) (l:=ae) (fun n i h=>by
  simp only[qf]
  rw[decide_eq_true (show(i:Int)<(List.length ae:Int) by omega)]
  simp only[cond_true,ak h,Int.toNat_natCast,ah _ i h]) (fun n=>by
  simp only[qf]
  rw[decide_eq_false (by omega)]
  simp only[cond_false]) hl ae 0 n rfl (by omega) hn
theorem Zs {ae:(List Int)} {aA:Int} {bj:Int→Option aa} {aG:Int} (hl:(List.length ae)≤maxLen) {n:Nat} (hn:(List.length ae)<n):np ae aA n bj aG (0:Int)=
  bI (fun(i:Nat) (x:Int) (aG:Int) (next:Int→Option aa)=>
    bif (x==aA) then
     next (IntKind.wrap .i64 (aG+(1:Int)))
    else
     next aG) (fun(aG:Int)=>
    bj aG) ae 0 aG:=by
 exact bS (f:=fun n aG i=>np ae aA n bj aG i) (l:=ae) (fun n i aG h=>by
  simp only[np]
  rw[decide_eq_true (show(i:Int)<(List.length ae:Int) by omega)]
  simp only[cond_true,ak h,Int.toNat_natCast,ah _ i h]) (fun n aG=>by
  simp only[np]
  rw[decide_eq_false (by omega)]
  simp only[cond_false]) hl ae 0 n aG rfl (by omega) hn
theorem Zt {N:Nat} {xG:(List QT)} {H8:Int} {e8:QT} {tD:Option aa} {kH:Bool→Option aa} (hl:(List.length e8.2.2.2.2.2)≤maxLen) {n:Nat} (hn:(List.length e8.2.2.2.2.2)<n):jC N xG H8 e8 n tD kH (0:Int)=
  mf (fun(i:Nat) (x:_) (next:Option aa)=>
    vA N xG x (fun(kn:Int)=>
     bif (decide (kn<(0:Int))) then
      kH false
     else
      bif (kn==H8) then
       kH false
      else
       bif (aQ kn (List.length xG)) then
        bif (aQ kn (List.length xG)) then
         Sa N (List.getD xG (Int.toNat kn) aj).2.2.2.2.2 e8.1 (fun(Jw:Int)=>
          Sa N e8.2.2.2.2.2 (List.getD xG (Int.toNat kn) aj).1 (fun(Jx:Int)=>
           bif (Jw != Jx) then
            kH false
           else
            next))
        else none
       else none)) (
    tD) e8.2.2.2.2.2 0:=by
 exact cE (f:=fun n i=>jC N xG H8 e8 n tD kH i) (l:=e8.2.2.2.2.2) (fun n i h=>by
  simp only[jC]
  rw[decide_eq_true (show(i:Int)<(List.length e8.2.2.2.2.2:Int) by omega)]
  simp only[cond_true,ak h,Int.toNat_natCast,ah _ i h]) (fun n=>by
  simp only[jC]
  rw[decide_eq_false (by omega)]
  simp only[cond_false]) hl e8.2.2.2.2.2 0 n rfl (by omega) hn
theorem Zu {N:Nat} {ae:(List QT)} {qg:Option aa} {cQ:Bool→Option aa} (hl:(List.length ae)≤maxLen) {n:Nat} (hn:(List.length ae)<n):nq N ae n qg cQ (0:Int)=
  mf (fun(i:Nat) (x:QT) (next:Option aa)=>
    gH N x.1 (1:Int) (99:Int) (fun(E3:Bool)=>
     bif (!E3) then
      cQ false
     else
      gH N x.2.1 (1:Int) (99:Int) (fun(Fe:Bool)=>
       bif (!Fe) then
        cQ false
       else
        gH N x.2.2.1 (0:Int) (List.length x.2.2.2.2.2:Int) (fun(NG:Bool)=>
         bif (!NG) then
          cQ false
         else
          gH N x.2.2.2.2.1 (0:Int) (List.length x.2.2.2.2.2:Int) (fun(acW:Bool)=>
           bif (!acW) then
            cQ false
           else
            gH N x.2.2.2.1 (0:Int) (100000:Int) (fun(acX:Bool)=>
             bif (!acX) then
              cQ false
             else
              bif (decide ((List.length x.2.2.2.2.2:Int)>(20:Int))) then
               cQ false
              else
               bif (decide ((i:Int)>(0:Int))) then
                bif (aQ (IntKind.wrap .i64 ((i:Int) - (1:Int))) (List.length ae)) then
                 bif (decide ((List.getD ae (Int.toNat (IntKind.wrap .i64 ((i:Int) - (1:Int)))) aj).1≥x.1)) then
                  cQ false
                 else
                  jC N ae (i:Int) x N next cQ (0:Int)
                else none
               else
                jC N ae (i:Int) x N next cQ (0:Int))))))) (
    qg) ae 0:=by
 exact cE (f:=fun n i=>nq N ae n qg cQ i) (l:=ae) (fun n i h=>by
  simp only[nq]
  rw[decide_eq_true (show(i:Int)<(List.length ae:Int) by omega)]
  simp only[cond_true,ak h,Int.toNat_natCast,ah _ i h]) (fun n=>by
  simp only[nq]
  rw[decide_eq_false (by omega)]
  simp only[cond_false]) hl ae 0 n rfl (by omega) hn
theorem Fq {nr:(List QT)} {oH:(List Int)→Option aa} {lC:(List Int)} (hl:(List.length nr)≤maxLen) {n:Nat} (hn:(List.length nr)<n):k8 nr n oH lC (0:Int)=
  bI (fun(i:Nat) (x:QT) (lC:(List Int)) (next:(List Int)→Option aa)=>
    bif (decide ((List.length lC+List.length [x.1])*1≤4398046511104)) then
     next (lC++[x.1])
    else none) (fun(lC:(List Int))=>
    oH lC) nr 0 lC:=by
 exact bS (f:=fun n lC i=>k8 nr n oH lC i) (l:=nr) (fun n i lC h=>by
  simp only[k8]
  rw[decide_eq_true (show(i:Int)<(List.length nr:Int) by omega)]
  simp only[cond_true,ak h,Int.toNat_natCast,ah _ i h]) (fun n lC=>by
  simp only[k8]
  rw[decide_eq_false (by omega)]
  simp only[cond_false]) hl nr 0 n lC rfl (by omega) hn
theorem Zv {N:Nat} {ae:(List QT)} {ns:(List QT)→Option aa} {ai:(List QT)} (hl:(List.length ae)≤maxLen) {n:Nat} (hn:(List.length ae)<n):qi N ae n ns ai (0:Int)=
  bI (fun(i:Nat) (x:QT) (ai:(List QT)) (next:(List QT)→Option aa)=>
    uh N ae (fun(acZ:Bool)=>
     bif acZ then
      qh N ae ai (i:Int) N (fun(ij:Int)=>
       bif (decide ((0:Int)≤(0:Int))&&decide ((0:Int)≤ij)&&decide (ij≤(List.length ai:Int))) then
        bif (decide ((0:Int)≤ij)&&decide (ij≤(List.length ai:Int))&&decide ((List.length ai:Int)≤(List.length ai:Int))) then
         bif (decide ((List.length ([]:(List QT))+List.length (List.drop 0 (List.take (Int.toNat ij) ai)))*6≤4398046511104)) then
          bif (decide ((List.length (([]:(List QT))++(List.drop 0 (List.take (Int.toNat ij) ai)))+List.length [x])*6≤4398046511104)) then
           bif (decide ((List.length ((([]:(List QT))++(List.drop 0 (List.take (Int.toNat ij) ai)))++[x])+List.length (List.drop (Int.toNat ij) (List.take (Int.toNat (List.length ai:Int)) ai)))*6≤4398046511104)) then
            next (((([]:(List QT))++(List.drop 0 (List.take (Int.toNat ij) ai)))++[x])++(List.drop (Int.toNat ij) (List.take (Int.toNat (List.length ai:Int)) ai)))
           else none
          else none
         else none
        else none
       else none) (List.length ai:Int)
     else
      ns ai)) (fun(ai:(List QT))=>
    ns ai) ae 0 ai:=by
 exact bS (f:=fun n ai i=>qi N ae n ns ai i) (l:=ae) (fun n i ai h=>by
  simp only[qi]
  rw[decide_eq_true (show(i:Int)<(List.length ae:Int) by omega)]
  simp only[cond_true,ak h,Int.toNat_natCast,ah _ i h]) (fun n ai=>by
  simp only[qi]
  rw[decide_eq_false (by omega)]
  simp only[cond_false]) hl ae 0 n ai rfl (by omega) hn
theorem Zw {ae:(List Int)} {aA:Int} {bT:Option aa} {cK:Bool→Option aa} (hl:(List.length ae)≤maxLen) {n:Nat} (hn:(List.length ae)<n):qj ae aA n bT cK (0:Int)=
  mf (fun(i:Nat) (x:Int) (next:Option aa)=>
    bif (x==aA) then
     cK true
    else
     next) (
    bT) ae 0:=by
 exact cE (f:=fun n i=>qj ae aA n bT cK i) (l:=ae) (fun n i h=>by
  simp only[qj]
  rw[decide_eq_true (show(i:Int)<(List.length ae:Int) by omega)]
  simp only[cond_true,ak h,Int.toNat_natCast,ah _ i h]) (fun n=>by
  simp only[qj]
  rw[decide_eq_false (by omega)]
  simp only[cond_false]) hl ae 0 n rfl (by omega) hn
theorem Zx {N:Nat} {dZ:(List QJ)} {gR:Int} {qm:Option aa} {lN:Bool→Option aa} (G0:(aQ gR (List.length dZ))=true) (hl:(List.length (List.getD dZ (Int.toNat gR) cg).2.2)≤maxLen) {n:Nat} (hn:(List.length (List.getD dZ (Int.toNat gR) cg).2.2)<n):iB N dZ gR n qm lN (0:Int)=
  mf (fun(i:Nat) (x:_) (next:Option aa)=>
    gH N x (1:Int) (99:Int) (fun(Sf:Bool)=>
     bif (!Sf) then
      lN false
     else
      bif (decide ((i:Int)>(0:Int))) then
       bif (aQ (IntKind.wrap .i64 ((i:Int) - (1:Int))) (List.length (List.getD dZ (Int.toNat gR) cg).2.2)) then
        bif (decide ((List.getD (List.getD dZ (Int.toNat gR) cg).2.2 (Int.toNat (IntKind.wrap .i64 ((i:Int) - (1:Int)))) (0:Int))≥x)) then
         lN false
        else
         next
       else none
      else
       next)) (
    qm) ((List.getD dZ (Int.toNat gR) cg).2.2) 0:=by
 exact cE (f:=fun n i=>iB N dZ gR n qm lN i) (l:=((List.getD dZ (Int.toNat gR) cg).2.2)) (fun n i h=>by
  simp only[iB,G0,cond_true]
  rw[decide_eq_true (show(i:Int)<(List.length ((List.getD dZ (Int.toNat gR) cg).2.2):Int) by omega)]
  simp only[cond_true,ak h,Int.toNat_natCast,ah _ i h]) (fun n=>by
  simp only[iB,G0,cond_true]
  rw[decide_eq_false (by omega)]
  simp only[cond_false]) hl ((List.getD dZ (Int.toNat gR) cg).2.2) 0 n rfl (by omega) hn
theorem Zy {N:Nat} {ae:(List QJ)} {qn:Option aa} {fE:Bool→Option aa} (hl:(List.length ae)≤maxLen) {n:Nat} (hn:(List.length ae)<n):nt N ae n qn fE (0:Int)=
  mf (fun(i:Nat) (x:QJ) (next:Option aa)=>
    gH N x.1 (1:Int) (99:Int) (fun(Nx:Bool)=>
     bif (!Nx) then
      fE false
     else
      gH N x.2.1 (1:Int) (99:Int) (fun(Fe:Bool)=>
       bif (!Fe) then
        fE false
       else
        bif (decide ((i:Int)>(0:Int))) then
         bif (aQ (IntKind.wrap .i64 ((i:Int) - (1:Int))) (List.length ae)) then
          bif (decide ((List.getD ae (Int.toNat (IntKind.wrap .i64 ((i:Int) - (1:Int)))) cg).1≥x.1)) then
           fE false
          else
           iB N ae (i:Int) N next fE (0:Int)
         else none
        else
         iB N ae (i:Int) N next fE (0:Int)))) (
    qn) ae 0:=by
 exact cE (f:=fun n i=>nt N ae n qn fE i) (l:=ae) (fun n i h=>by
  simp only[nt]
  rw[decide_eq_true (show(i:Int)<(List.length ae:Int) by omega)]
  simp only[cond_true,ak h,Int.toNat_natCast,ah _ i h]) (fun n=>by
  simp only[nt]
  rw[decide_eq_false (by omega)]
  simp only[cond_false]) hl ae 0 n rfl (by omega) hn
theorem Zz {N:Nat} {ae:(List Int)} {ee:Int→Option aa} {ai:Int} (hl:(List.length ae)≤maxLen) {n:Nat} (hn:(List.length ae)<n):qo N ae n ee ai (0:Int)=
  bI (fun(i:Nat) (x:Int) (ai:Int) (next:Int→Option aa)=>
    ac1 N x (2147483647:Int) (fun(Nw:Int)=>
     next (Int.tmod (IntKind.wrap .i64 ((IntKind.wrap .i64 ((IntKind.wrap .i64 (ai*(1000003:Int)))+Nw))+(13:Int))) (2147483647:Int)))) (fun(ai:Int)=>
    ee ai) ae 0 ai:=by
 exact bS (f:=fun n ai i=>qo N ae n ee ai i) (l:=ae) (fun n i ai h=>by
  simp only[qo]
  rw[decide_eq_true (show(i:Int)<(List.length ae:Int) by omega)]
  simp only[cond_true,ak h,Int.toNat_natCast,ah _ i h]) (fun n ai=>by
  simp only[qo]
  rw[decide_eq_false (by omega)]
  simp only[cond_false]) hl ae 0 n ai rfl (by omega) hn
theorem ZA {N:Nat} {ae:(List QL)} {bc:Option aa} {fC:Bool→Option aa} {ai:Int} (hl:(List.length ae)≤maxLen) {n:Nat} (hn:(List.length ae)<n):qp N ae n bc fC ai (0:Int)=
  bI (fun(i:Nat) (x:QL) (ai:Int) (next:Int→Option aa)=>
    bif (decide ((List.length ae:Int)≤(200:Int))) then
     Si N ai x (fun(uD:Int)=>
      bif (x.1 != (IntKind.wrap .i64 ((i:Int)+(1:Int)))) then
       fC false
      else
       gH N x.2.1 (1:Int) (9:Int) (fun(NN:Bool)=>
        bif (!NN) then
         fC false
        else
         gH N x.2.2.1 (0:Int) (99:Int) (fun(xH:Bool)=>
          bif (!xH) then
           fC false
          else
           bif (x.2.2.2 != uD) then
            fC false
           else
            next uD)))
    else
     bc) (fun(ai:Int)=>
    bc) ae 0 ai:=by
 exact bS (f:=fun n ai i=>qp N ae n bc fC ai i) (l:=ae) (fun n i ai h=>by
  simp only[qp]
  rw[decide_eq_true (show(i:Int)<(List.length ae:Int) by omega)]
  simp only[cond_true,ak h,Int.toNat_natCast,ah _ i h]) (fun n ai=>by
  simp only[qp]
  rw[decide_eq_false (by omega)]
  simp only[cond_false]) hl ae 0 n ai rfl (by omega) hn
theorem ZB {N:Nat} {ae:(List QT)} {ee:Int→Option aa} {ai:Int} (hl:(List.length ae)≤maxLen) {n:Nat} (hn:(List.length ae)<n):qq N ae n ee ai (0:Int)=
  bI (fun(i:Nat) (x:QT) (ai:Int) (next:Int→Option aa)=>
    uh N ae (fun(ac2:Bool)=>
     bif ac2 then
      next (IntKind.wrap .i64 (ai+x.2.2.1))
     else
      ee ai)) (fun(ai:Int)=>
    ee ai) ae 0 ai:=by
 exact bS (f:=fun n ai i=>qq N ae n ee ai i) (l:=ae) (fun n i ai h=>by
  simp only[qq]
  rw[decide_eq_true (show(i:Int)<(List.length ae:Int) by omega)]
  simp only[cond_true,ak h,Int.toNat_natCast,ah _ i h]) (fun n ai=>by
  simp only[qq]
  rw[decide_eq_false (by omega)]
  simp only[cond_false]) hl ae 0 n ai rfl (by omega) hn
theorem ZC {N:Nat} {ae:(List QT)} {aA:(List bJ)} {bg:(List Int)→Option aa} {kI:Bool→Option aa} {aG:(List Int)} (hl:(List.length aA)≤maxLen) {n:Nat} (hn:(List.length aA)<n):qs N ae aA n bg kI aG (0:Int)=
  bI (fun(i:Nat) (x:bJ) (aG:(List Int)) (next:(List Int)→Option aa)=>
    Sb N ae x.1 x.2 (fun(NO:Bool)=>
     bif (!NO) then
      kI false
     else
      vB N aG x.1 (fun(NP:Bool)=>
       bif NP then
        kI false
       else
        vB N aG x.2 (fun(NQ:Bool)=>
         bif NQ then
          kI false
         else
          bif (decide ((List.length aG+List.length [x.1,x.2])*1≤4398046511104)) then
           next (aG++[x.1,x.2])
          else none)))) (fun(aG:(List Int))=>
    bg aG) aA 0 aG:=by
 exact bS (f:=fun n aG i=>qs N ae aA n bg kI aG i) (l:=aA) (fun n i aG h=>by
  simp only[qs]
  rw[decide_eq_true (show(i:Int)<(List.length aA:Int) by omega)]
  simp only[cond_true,ak h,Int.toNat_natCast,ah _ i h]) (fun n aG=>by
  simp only[qs]
  rw[decide_eq_false (by omega)]
  simp only[cond_false]) hl aA 0 n aG rfl (by omega) hn
theorem ZD {ae:(List QJ)} {aA:Int} {bT:Option aa} {cK:Int→Option aa} (hl:(List.length ae)≤maxLen) {n:Nat} (hn:(List.length ae)<n):qt ae aA n bT cK (0:Int)=
  mf (fun(i:Nat) (x:QJ) (next:Option aa)=>
    bif (x.1==aA) then
     cK (i:Int)
    else
     next) (
    bT) ae 0:=by
 exact cE (f:=fun n i=>qt ae aA n bT cK i) (l:=ae) (fun n i h=>by
  simp only[qt]
  rw[decide_eq_true (show(i:Int)<(List.length ae:Int) by omega)]
  simp only[cond_true,ak h,Int.toNat_natCast,ah _ i h]) (fun n=>by
  simp only[qt]
  rw[decide_eq_false (by omega)]
  simp only[cond_false]) hl ae 0 n rfl (by omega) hn
theorem ZE {N:Nat} {Au:(List QT)} {jU:(List QJ)} {km:(List bJ)} {jc:(List Int)} {jD:Option aa} {fF:Bool→Option aa} (hl:(List.length km)≤maxLen) {n:Nat} (hn:(List.length km)<n):qu N Au jU km jc n jD fF (0:Int)=
  mf (fun(i:Nat) (x:bJ) (next:Option aa)=>
    bif (aQ (i:Int) (List.length jc)) then
     Ff N jU (List.getD jc (Int.toNat (i:Int)) (0:Int)) (fun(Fh:Int)=>
      bif (decide (Fh<(0:Int))) then
       fF false
      else
       bif (decide ((0:Int)≤(0:Int))&&decide ((0:Int)≤(i:Int))&&decide ((i:Int)≤(List.length jc:Int))) then
        bif (aQ (i:Int) (List.length jc)) then
         vB N (List.drop (Int.toNat (0:Int)) (List.take (Int.toNat (i:Int)) jc)) (List.getD jc (Int.toNat (i:Int)) (0:Int)) (fun(ac3:Bool)=>
          bif ac3 then
           fF false
          else
           bif (aQ Fh (List.length jU)) then
            Y7 N Au (List.getD jU (Int.toNat Fh) cg) x (fun(Sk:Bool)=>
             bif (!Sk) then
              fF false
             else
              next)
           else none)
        else none
       else none)
    else none) (
    jD) km 0:=by
 exact cE (f:=fun n i=>qu N Au jU km jc n jD fF i) (l:=km) (fun n i h=>by
  simp only[qu]
  rw[decide_eq_true (show(i:Int)<(List.length km:Int) by omega)]
  simp only[cond_true,ak h,Int.toNat_natCast,ah _ i h]) (fun n=>by
  simp only[qu]
  rw[decide_eq_false (by omega)]
  simp only[cond_false]) hl km 0 n rfl (by omega) hn
theorem ZF {N:Nat} {lO:QC} {Fi:QB} {qv:Option aa} {lP:Bool→Option aa} (hl:(List.length lO.2.2.2.2.1)≤maxLen) {n:Nat} (hn:(List.length lO.2.2.2.2.1)<n):nw N lO Fi n qv lP (0:Int)=
  mf (fun(i:Nat) (x:_) (next:Option aa)=>
    bif (!((decide ((x.1:Int)=Fi.1))&&((decide ((x.2.1:Int)=Fi.2.1))&&(decide ((x.2.2:Int)=Fi.2.2))))) then
     NR N x (fun(Sl:Bool)=>
      bif (!Sl) then
       lP false
      else
       bif (aQ (i:Int) (List.length lO.2.2.2.1)) then
        bif (x.1 != (List.getD lO.2.2.2.1 (Int.toNat (i:Int)) (0:Int))) then
         lP false
        else
         next
       else none)
    else
     next) (
    qv) lO.2.2.2.2.1 0:=by
 exact cE (f:=fun n i=>nw N lO Fi n qv lP i) (l:=lO.2.2.2.2.1) (fun n i h=>by
  simp only[nw]
  rw[decide_eq_true (show(i:Int)<(List.length lO.2.2.2.2.1:Int) by omega)]
  simp only[cond_true,ak h,Int.toNat_natCast,ah _ i h]) (fun n=>by
  simp only[nw]
  rw[decide_eq_false (by omega)]
  simp only[cond_false]) hl lO.2.2.2.2.1 0 n rfl (by omega) hn
theorem ZG {fj:QC} {bz:QB} {iM:(List Int)→Option aa} {ai:(List Int)} (hl:(List.length fj.2.2.2.2.1)≤maxLen) {n:Nat} (hn:(List.length fj.2.2.2.2.1)<n):nx fj bz n iM ai (0:Int)=
  bI (fun(i:Nat) (x:_) (ai:(List Int)) (next:(List Int)→Option aa)=>
    bif ((decide ((x.1:Int)=bz.1))&&((decide ((x.2.1:Int)=bz.2.1))&&(decide ((x.2.2:Int)=bz.2.2)))) then
     bif (decide ((List.length ai+List.length [(i:Int)])*1≤4398046511104)) then
      next (ai++[(i:Int)])
     else none
    else
     next ai) (fun(ai:(List Int))=>
    iM ai) fj.2.2.2.2.1 0 ai:=by
 exact bS (f:=fun n ai i=>nx fj bz n iM ai i) (l:=fj.2.2.2.2.1) (fun n i ai h=>by
  simp only[nx]
  rw[decide_eq_true (show(i:Int)<(List.length fj.2.2.2.2.1:Int) by omega)]
  simp only[cond_true,ak h,Int.toNat_natCast,ah _ i h]) (fun n ai=>by
  simp only[nx]
  rw[decide_eq_false (by omega)]
  simp only[cond_false]) hl fj.2.2.2.2.1 0 n ai rfl (by omega) hn
theorem ZH {N:Nat} {ae:(List QB)} {bT:Option aa} {cK:Bool→Option aa} (hl:(List.length ae)≤maxLen) {n:Nat} (hn:(List.length ae)<n):ny N ae n bT cK (0:Int)=
  mf (fun(i:Nat) (x:QB) (next:Option aa)=>
    NR N x (fun(NS:Bool)=>
     bif (!NS) then
      cK false
     else
      bif (decide ((i:Int)>(0:Int))) then
       bif (aQ (IntKind.wrap .i64 ((i:Int) - (1:Int))) (List.length ae)) then
        bif (decide ((List.getD ae (Int.toNat (IntKind.wrap .i64 ((i:Int) - (1:Int)))) gQ).1≥x.1)) then
         cK false
        else
         next
       else none
      else
       next)) (
    bT) ae 0:=by
 exact cE (f:=fun n i=>ny N ae n bT cK i) (l:=ae) (fun n i h=>by
  simp only[ny]
  rw[decide_eq_true (show(i:Int)<(List.length ae:Int) by omega)]
  simp only[cond_true,ak h,Int.toNat_natCast,ah _ i h]) (fun n=>by
  simp only[ny]
  rw[decide_eq_false (by omega)]
  simp only[cond_false]) hl ae 0 n rfl (by omega) hn
theorem ZI {N:Nat} {ae:(List QB)} {aA:Int} {bg:Int→Option aa} {aG:Int} (hl:(List.length ae)≤maxLen) {n:Nat} (hn:(List.length ae)<n):nz N ae aA n bg aG (0:Int)=
  bI (fun(i:Nat) (x:QB) (aG:Int) (next:Int→Option aa)=>
    Sn N ae (fun(NT:Bool)=>
     bif NT then
      Y' N x (fun(xA:Int)=>
       bif (xA==aA) then
        next (IntKind.wrap .i64 (aG+(1:Int)))
       else
        next aG)
     else
      bg aG)) (fun(aG:Int)=>
    bg aG) ae 0 aG:=by
 exact bS (f:=fun n aG i=>nz N ae aA n bg aG i) (l:=ae) (fun n i aG h=>by
  simp only[nz]
  rw[decide_eq_true (show(i:Int)<(List.length ae:Int) by omega)]
  simp only[cond_true,ak h,Int.toNat_natCast,ah _ i h]) (fun n aG=>by
  simp only[nz]
  rw[decide_eq_false (by omega)]
  simp only[cond_false]) hl ae 0 n aG rfl (by omega) hn
theorem ZJ {ae:(List Int)} {aA:Int} {bT:Int→Option aa} (hl:(List.length ae)≤maxLen) {n:Nat} (hn:(List.length ae)<n):qw ae aA n bT (0:Int)=
  mf (fun(i:Nat) (x:Int) (next:Option aa)=>
    bif (decide (x<aA)) then
     next
    else
     bT (i:Int)) (
    bT (List.length ae:Int)) ae 0:=by
 exact cE (f:=fun n i=>qw ae aA n bT i) (l:=ae) (fun n i h=>by
  simp only[qw]
  rw[decide_eq_true (show(i:Int)<(List.length ae:Int) by omega)]
  simp only[cond_true,ak h,Int.toNat_natCast,ah _ i h]) (fun n=>by
  simp only[qw]
  rw[decide_eq_false (by omega)]
  simp only[cond_false]) hl ae 0 n rfl (by omega) hn
theorem adx {N:Nat} {fk:QC} {ac6:QC} {qx:QC→Bool→Option aa} {dV:QC} {xJ:Bool} (hl:(List.length fk.2.2.1)≤maxLen) {n:Nat} (hn:(List.length fk.2.2.1)<n):sE N fk ac6 n qx dV xJ (0:Int)=
  He (fun(i:Nat) (x:_) (dV:QC) (xJ:Bool) (next:QC→Bool→Option aa)=>
    bif (aQ (i:Int) (List.length fk.2.2.2.2.1)) then
     Za N [(List.getD fk.2.2.2.2.1 (Int.toNat (i:Int)) gQ)] (fun(Fj:Int)=>
      Zb N dV.1 x.1 x.2 Fj (List.getD fk.2.2.2.2.1 (Int.toNat (i:Int)) gQ).2.1 (List.getD fk.2.2.2.2.1 (Int.toNat (i:Int)) gQ).2.2 (fun(sF:(List QT)) (pU:Bool)=>
       bif xJ then
        bif (aQ (i:Int) (List.length fk.2.2.2.1)) then
         Ff N dV.2.1 (List.getD fk.2.2.2.1 (Int.toNat (i:Int)) (0:Int)) (fun(fb:Int)=>
          bif (aQ fb (List.length dV.2.1)) then
           sD N (List.getD dV.2.1 (Int.toNat fb) cg).2.2 x.1 (fun(Fl:(List Int))=>
            sD N Fl x.2 (fun(xK:(List Int))=>
             bif (aQ fb (List.length dV.2.1)) then
              next (sF,((List.set dV.2.1 (Int.toNat fb) ((List.getD dV.2.1 (Int.toNat fb) cg).1,((List.getD dV.2.1 (Int.toNat fb) cg).2.1,xK))),dV.2.2)) pU
             else none))
          else none)
        else none
       else
        bif (aQ (i:Int) (List.length fk.2.2.2.1)) then
         Ff N dV.2.1 (List.getD fk.2.2.2.1 (Int.toNat (i:Int)) (0:Int)) (fun(fc:Int)=>
          bif (aQ fc (List.length dV.2.1)) then
           sD N (List.getD dV.2.1 (Int.toNat fc) cg).2.2 x.1 (fun(vw:(List Int))=>
            sD N vw x.2 (fun(xL:(List Int))=>
             bif (aQ fc (List.length dV.2.1)) then
              next (sF,((List.set dV.2.1 (Int.toNat fc) ((List.getD dV.2.1 (Int.toNat fc) cg).1,((List.getD dV.2.1 (Int.toNat fc) cg).2.1,xL))),dV.2.2)) false
             else none))
          else none)
        else none))
    else none) (fun(dV:QC) (xJ:Bool)=>
    qx dV xJ) fk.2.2.1 0 dV xJ:=by
 exact RH (f:=fun n dV xJ i=>sE N fk ac6 n qx dV xJ i) (l:=fk.2.2.1) (fun n i dV xJ h=>by
  simp only[sE]
  rw[decide_eq_true (show(i:Int)<(List.length fk.2.2.1:Int) by omega)]
  simp only[cond_true,ak h,Int.toNat_natCast,ah _ i h]) (fun n dV xJ=>by
  simp only[sE]
  rw[decide_eq_false (by omega)]
  simp only[cond_false]) hl fk.2.2.1 0 n dV xJ rfl (by omega) hn
theorem ZK {aA:Int} {fN:Int} {cv:QC} {xM:QC} {JA:QC} {bg:Int→Option aa} (hl:(List.length cv.1)≤maxLen) {n:Nat} (hn:(List.length cv.1)<n):nA aA fN cv xM JA n bg (0:Int)=
  mf (fun(i:Nat) (x:_) (next:Option aa)=>
    bif (decide (x.1<aA)) then
     next
    else
     bg (i:Int)) (
    bg (List.length cv.1:Int)) cv.1 0:=by
 exact cE (f:=fun n i=>nA aA fN cv xM JA n bg i) (l:=cv.1) (fun n i h=>by
  simp only[nA]
  rw[decide_eq_true (show(i:Int)<(List.length cv.1:Int) by omega)]
  simp only[cond_true,ak h,Int.toNat_natCast,ah _ i h]) (fun n=>by
  simp only[nA]
  rw[decide_eq_false (by omega)]
  simp only[cond_false]) hl cv.1 0 n rfl (by omega) hn
theorem ZL {aA:Int} {fN:Int} {cv:QC} {xM:QC} {JA:QC} {bg:Int→Option aa} (hl:(List.length cv.2.1)≤maxLen) {n:Nat} (hn:(List.length cv.2.1)<n):nB aA fN cv xM JA n bg (0:Int)=
  mf (fun(i:Nat) (x:_) (next:Option aa)=>
    bif (decide (x.1<aA)) then
     next
    else
     bg (i:Int)) (
    bg (List.length cv.2.1:Int)) cv.2.1 0:=by
 exact cE (f:=fun n i=>nB aA fN cv xM JA n bg i) (l:=cv.2.1) (fun n i h=>by
  simp only[nB]
  rw[decide_eq_true (show(i:Int)<(List.length cv.2.1:Int) by omega)]
  simp only[cond_true,ak h,Int.toNat_natCast,ah _ i h]) (fun n=>by
  simp only[nB]
  rw[decide_eq_false (by omega)]
  simp only[cond_false]) hl cv.2.1 0 n rfl (by omega) hn
theorem ady {N:Nat} {As:QC} {cH:(List QL)} {tF:QC→Option aa} {aG:QC} (hl:(List.length cH)≤maxLen) {n:Nat} (hn:(List.length cH)<n):vD N As cH (List.length cH:Int) n tF aG (0:Int)=
  bI (fun(i:Nat) (x:QL) (aG:QC) (next:QC→Option aa)=>
    I13 N aG x (fun(xF:QC) (ac8:Bool)=>
     next xF)) (fun(aG:QC)=>
    tF aG) cH 0 aG:=by
 exact bS (f:=fun n aG i=>vD N As cH (List.length cH:Int) n tF aG i) (l:=cH) (fun n i aG h=>by
  simp only[vD]
  rw[decide_eq_true (show(i:Int)<(List.length cH:Int) by omega)]
  simp only[cond_true,ak h,Int.toNat_natCast,ah _ i h]) (fun n aG=>by
  simp only[vD]
  rw[decide_eq_false (by omega)]
  simp only[cond_false]) hl cH 0 n aG rfl (by omega) hn
theorem adz {aA:Int} {aV:(List QL)} {dA:Int→Option aa} {aG:Int} (hl:(List.length aV)≤maxLen) {n:Nat} (hn:(List.length aV)<n):qy aA aV (List.length aV:Int) n dA aG (0:Int)=
  bI (fun(i:Nat) (x:QL) (aG:Int) (next:Int→Option aa)=>
    bif (x.2.1==(4:Int)) then
     bif (x.2.2.1==aA) then
      next (IntKind.wrap .i64 (aG+(1:Int)))
     else
      next aG
    else
     next aG) (fun(aG:Int)=>
    dA aG) aV 0 aG:=by
 exact bS (f:=fun n aG i=>qy aA aV (List.length aV:Int) n dA aG i) (l:=aV) (fun n i aG h=>by
  simp only[qy]
  rw[decide_eq_true (show(i:Int)<(List.length aV:Int) by omega)]
  simp only[cond_true,ak h,Int.toNat_natCast,ah _ i h]) (fun n aG=>by
  simp only[qy]
  rw[decide_eq_false (by omega)]
  simp only[cond_false]) hl aV 0 n aG rfl (by omega) hn
theorem adA {bn:(List QL)} {vE:(List Int)→Option aa} {ai:(List Int)} (hl:(List.length bn)≤maxLen) {n:Nat} (hn:(List.length bn)<n):sG bn (List.length bn:Int) n vE ai (0:Int)=
  bI (fun(i:Nat) (x:QL) (ai:(List Int)) (next:(List Int)→Option aa)=>
    bif (x.2.1==(2:Int)) then
     bif (decide ((List.length ai+List.length [x.2.2.1])*1≤4398046511104)) then
      next (ai++[x.2.2.1])
     else none
    else
     next ai) (fun(ai:(List Int))=>
    vE ai) bn 0 ai:=by
 exact bS (f:=fun n ai i=>sG bn (List.length bn:Int) n vE ai i) (l:=bn) (fun n i ai h=>by
  simp only[sG]
  rw[decide_eq_true (show(i:Int)<(List.length bn:Int) by omega)]
  simp only[cond_true,ak h,Int.toNat_natCast,ah _ i h]) (fun n ai=>by
  simp only[sG]
  rw[decide_eq_false (by omega)]
  simp only[cond_false]) hl bn 0 n ai rfl (by omega) hn
theorem adB {ae:(List Int)} {aA:(List Int)} {AA:Option aa} {AB:Bool→Option aa} (hl:(List.length ae)≤maxLen) {n:Nat} (hn:(List.length ae)<n):vF ae aA n AA AB (0:Int)=
  mf (fun(i:Nat) (x:Int) (next:Option aa)=>
    bif (aQ (i:Int) (List.length aA)) then
     bif (x != (List.getD aA (Int.toNat (i:Int)) (0:Int))) then
      AB false
     else
      next
    else none) (
    AA) ae 0:=by
 exact cE (f:=fun n i=>vF ae aA n AA AB i) (l:=ae) (fun n i h=>by
  simp only[vF]
  rw[decide_eq_true (show(i:Int)<(List.length ae:Int) by omega)]
  simp only[cond_true,ak h,Int.toNat_natCast,ah _ i h]) (fun n=>by
  simp only[vF]
  rw[decide_eq_false (by omega)]
  simp only[cond_false]) hl ae 0 n rfl (by omega) hn
theorem adC {fj:Int} {fY:(List QL)} {bc:Int→Option aa} {bX:Int} (hl:(List.length fY)≤maxLen) {n:Nat} (hn:(List.length fY)<n):sH fj fY (List.length fY:Int) n bc bX (0:Int)=
  bI (fun(i:Nat) (x:QL) (bX:Int) (next:Int→Option aa)=>
    bif (x.2.1==fj) then
     next (IntKind.wrap .i64 (bX+(1:Int)))
    else
     next bX) (fun(bX:Int)=>
    bc bX) fY 0 bX:=by
 exact bS (f:=fun n bX i=>sH fj fY (List.length fY:Int) n bc bX i) (l:=fY) (fun n i bX h=>by
  simp only[sH]
  rw[decide_eq_true (show(i:Int)<(List.length fY:Int) by omega)]
  simp only[cond_true,ak h,Int.toNat_natCast,ah _ i h]) (fun n bX=>by
  simp only[sH]
  rw[decide_eq_false (by omega)]
  simp only[cond_false]) hl fY 0 n bX rfl (by omega) hn
theorem ZM {fj:Int} {e9:(List Int)} {bc:(List Int)→Option aa} {bX:(List Int)} (hl:(List.length e9)≤maxLen) {n:Nat} (hn:(List.length e9)<n):nC fj e9 (List.length e9:Int) n bc bX (0:Int)=
  bI (fun(i:Nat) (x:Int) (bX:(List Int)) (next:(List Int)→Option aa)=>
    bif (x != fj) then
     bif (decide ((List.length bX+List.length [x])*1≤4398046511104)) then
      next (bX++[x])
     else none
    else
     next bX) (fun(bX:(List Int))=>
    bc bX) e9 0 bX:=by
 exact bS (f:=fun n bX i=>nC fj e9 (List.length e9:Int) n bc bX i) (l:=e9) (fun n i bX h=>by
  simp only[nC]
  rw[decide_eq_true (show(i:Int)<(List.length e9:Int) by omega)]
  simp only[cond_true,ak h,Int.toNat_natCast,ah _ i h]) (fun n bX=>by
  simp only[nC]
  rw[decide_eq_false (by omega)]
  simp only[cond_false]) hl e9 0 n bX rfl (by omega) hn
theorem adD {N:Nat} {bn:(List QL)} {ck:(List Int)→Option aa} {ai:(List Int)} (hl:(List.length bn)≤maxLen) {n:Nat} (hn:(List.length bn)<n):nU N bn (List.length bn:Int) n ck ai (0:Int)=
  bI (fun(i:Nat) (x:QL) (ai:(List Int)) (next:(List Int)→Option aa)=>
    bif (x.2.1==(6:Int)) then
     ac' N ai x.2.2.1 (fun(ada:(List Int))=>
      next ada)
    else
     bif (x.2.1==(1:Int)) then
      S82 N ai x.2.2.1 (fun(adb:Bool)=>
       bif (!adb) then
        bif (decide ((List.length ai+List.length [x.2.2.1])*1≤4398046511104)) then
         next (ai++[x.2.2.1])
        else none
       else
        next ai)
     else
      next ai) (fun(ai:(List Int))=>
    ck ai) bn 0 ai:=by
 exact bS (f:=fun n ai i=>nU N bn (List.length bn:Int) n ck ai i) (l:=bn) (fun n i ai h=>by
  simp only[nU]
  rw[decide_eq_true (show(i:Int)<(List.length bn:Int) by omega)]
  simp only[cond_true,ak h,Int.toNat_natCast,ah _ i h]) (fun n ai=>by
  simp only[nU]
  rw[decide_eq_false (by omega)]
  simp only[cond_false]) hl bn 0 n ai rfl (by omega) hn
theorem adE {ae:(List QL)} {dv:(List QL)} {bc:Bool→Option aa} {ai:Bool} (hl:(List.length dv)≤maxLen) {n:Nat} (hn:(List.length dv)<n):qz ae dv (List.length dv:Int) n bc ai (0:Int)=
  bI (fun(i:Nat) (x:QL) (ai:Bool) (next:Bool→Option aa)=>
    bif (x.2.1==(3:Int)) then
     next (x.2.1==(3:Int))
    else
     bif (x.2.1==(5:Int)) then
      next (x.2.1==(3:Int))
     else
      next ai) (fun(ai:Bool)=>
    bc ai) dv 0 ai:=by
 exact bS (f:=fun n ai i=>qz ae dv (List.length dv:Int) n bc ai i) (l:=dv) (fun n i ai h=>by
  simp only[qz]
  rw[decide_eq_true (show(i:Int)<(List.length dv:Int) by omega)]
  simp only[cond_true,ak h,Int.toNat_natCast,ah _ i h]) (fun n ai=>by
  simp only[qz]
  rw[decide_eq_false (by omega)]
  simp only[cond_false]) hl dv 0 n ai rfl (by omega) hn
theorem adF {N:Nat} {aA:(List QL)} {bz:QC} {bg:QC→Option aa} {lQ:QC} (hl:(List.length aA)≤maxLen) {n:Nat} (hn:(List.length aA)<n):vG N aA bz n bg lQ (0:Int)=
  bI (fun(i:Nat) (x:QL) (lQ:QC) (next:QC→Option aa)=>
    S60 N lQ x (fun(xA:QC) (av8:Bool)=>
     next xA)) (fun(lQ:QC)=>
    bg lQ) aA 0 lQ:=by
 exact bS (f:=fun n lQ i=>vG N aA bz n bg lQ i) (l:=aA) (fun n i lQ h=>by
  simp only[vG]
  rw[decide_eq_true (show(i:Int)<(List.length aA:Int) by omega)]
  simp only[cond_true,ak h,Int.toNat_natCast,ah _ i h]) (fun n lQ=>by
  simp only[vG]
  rw[decide_eq_false (by omega)]
  simp only[cond_false]) hl aA 0 n lQ rfl (by omega) hn
theorem ZN {ae:(List Int)} {aA:Int} {bj:(List Int)→Option aa} {aG:(List Int)} (hl:(List.length ae)≤maxLen) {n:Nat} (hn:(List.length ae)<n):nD ae aA n bj aG (0:Int)=
  bI (fun(i:Nat) (x:Int) (aG:(List Int)) (next:(List Int)→Option aa)=>
    bif (x != aA) then
     bif (decide ((List.length aG+List.length [x])*1≤4398046511104)) then
      next (aG++[x])
     else none
    else
     next aG) (fun(aG:(List Int))=>
    bj aG) ae 0 aG:=by
 exact bS (f:=fun n aG i=>nD ae aA n bj aG i) (l:=ae) (fun n i aG h=>by
  simp only[nD]
  rw[decide_eq_true (show(i:Int)<(List.length ae:Int) by omega)]
  simp only[cond_true,ak h,Int.toNat_natCast,ah _ i h]) (fun n aG=>by
  simp only[nD]
  rw[decide_eq_false (by omega)]
  simp only[cond_false]) hl ae 0 n aG rfl (by omega) hn
theorem adG {N:Nat} {ae:(List QL)} {bg:(List Int)→Option aa} {ai:(List Int)} (hl:(List.length ae)≤maxLen) {n:Nat} (hn:(List.length ae)<n):qA N ae n bg ai (0:Int)=
  bI (fun(i:Nat) (x:QL) (ai:(List Int)) (next:(List Int)→Option aa)=>
    Sj N ae (fun(adg:Bool)=>
     bif adg then
      bif (x.2.1==(1:Int)) then
       sD N ai x.2.2.1 (fun(adh:(List Int))=>
        next adh)
      else
       bif (x.2.1==(6:Int)) then
        adf N ai x.2.2.1 (fun(xH:(List Int))=>
         next xH)
       else
        next ai
     else
      bg ai)) (fun(ai:(List Int))=>
    bg ai) ae 0 ai:=by
 exact bS (f:=fun n ai i=>qA N ae n bg ai i) (l:=ae) (fun n i ai h=>by
  simp only[qA]
  rw[decide_eq_true (show(i:Int)<(List.length ae:Int) by omega)]
  simp only[cond_true,ak h,Int.toNat_natCast,ah _ i h]) (fun n ai=>by
  simp only[qA]
  rw[decide_eq_false (by omega)]
  simp only[cond_false]) hl ae 0 n ai rfl (by omega) hn
theorem adH {VE:(List Int)} {nE:QC} {oK:(List Int)→Option aa} {jE:(List Int)} (hl:(List.length nE.1)≤maxLen) {n:Nat} (hn:(List.length nE.1)<n):sI VE nE n oK jE (0:Int)=
  bI (fun(i:Nat) (x:_) (jE:(List Int)) (next:(List Int)→Option aa)=>
    bif (decide ((List.length jE+List.length [x.1])*1≤4398046511104)) then
     next (jE++[x.1])
    else none) (fun(jE:(List Int))=>
    oK jE) nE.1 0 jE:=by
 exact bS (f:=fun n jE i=>sI VE nE n oK jE i) (l:=nE.1) (fun n i jE h=>by
  simp only[sI]
  rw[decide_eq_true (show(i:Int)<(List.length nE.1:Int) by omega)]
  simp only[cond_true,ak h,Int.toNat_natCast,ah _ i h]) (fun n jE=>by
  simp only[sI]
  rw[decide_eq_false (by omega)]
  simp only[cond_false]) hl nE.1 0 n jE rfl (by omega) hn
theorem ajj {N:Nat} {aja:(List Int)} {rz:QC} {tH:(List Int)→Int→Option aa} {lL:(List Int)} {ui:Int} (hl:(List.length rz.2.1)≤maxLen) {n:Nat} (hn:(List.length rz.2.1)<n):Cn N aja rz n tH lL ui (0:Int)=
  He (fun(i:Nat) (x:_) (lL:(List Int)) (ui:Int) (next:(List Int)→Int→Option aa)=>
    bif (decide ((List.length lL+List.length [x.1])*1≤4398046511104)) then
     I49 N rz.2.2.2.2.2.1 x.1 (fun(Fp:Int)=>
      next (lL++[x.1]) (IntKind.wrap .i64 (ui+Fp)))
    else none) (fun(lL:(List Int)) (ui:Int)=>
    tH lL ui) rz.2.1 0 lL ui:=by
 exact RH (f:=fun n lL ui i=>Cn N aja rz n tH lL ui i) (l:=rz.2.1) (fun n i lL ui h=>by
  simp only[Cn]
  rw[decide_eq_true (show(i:Int)<(List.length rz.2.1:Int) by omega)]
  simp only[cond_true,ak h,Int.toNat_natCast,ah _ i h]) (fun n lL ui=>by
  simp only[Cn]
  rw[decide_eq_false (by omega)]
  simp only[cond_false]) hl rz.2.1 0 n lL ui rfl (by omega) hn
end Go.Pv.R
