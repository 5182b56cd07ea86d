/- Their loops over lists, without rounds. -/
import Derived.Test.YtdacecahpdgooaaGreatDoorPlRes
namespace Go.Pv.R
set_option linter.unusedVariables false
set_option linter.unusedSimpArgs false
theorem SB {aj:(List ah)} {fL:(List ah)→Option af} {ay:(List ah)} (hl:(List.length aj)≤maxLen) {n:Nat} (hn:(List.length aj)<n):sv aj n fL ay (0:Int)=
  eh (fun(i:Nat) (x:ah) (ay:(List ah)) (next:(List ah)→Option af)=>
    bif (decide ((List.length ([]:(List Int))+List.length x.2.2.2.2.2)*1≤4398046511104)) then
     bif (decide ((List.length ay+List.length [(x.1,(x.2.1,(x.2.2.1,(x.2.2.2.1,(x.2.2.2.2.1,(([]:(List Int))++x.2.2.2.2.2))))))])*6≤4398046511104)) then
      next (ay++[(x.1,(x.2.1,(x.2.2.1,(x.2.2.2.1,(x.2.2.2.2.1,(([]:(List Int))++x.2.2.2.2.2))))))])
     else none
    else none) (fun(ay:(List ah))=>
    fL ay) aj 0 ay:=by
 exact fK (f:=fun n ay i=>sv aj n fL ay i) (l:=aj) (fun n i ay h=>by
  simp only[sv]
  rw[decide_eq_true (show(i:Int)<(List.length aj:Int) by omega)]
  simp only[cond_true,aM h,Int.toNat_natCast,au _ i h]) (fun n ay=>by
  simp only[sv]
  rw[decide_eq_false (by omega)]
  simp only[cond_false]) hl aj 0 n ay rfl (by omega) hn
theorem SC {aj:(List ah)} {aV:Int} {bT:Option af} {cH:Int→Option af} (hl:(List.length aj)≤maxLen) {n:Nat} (hn:(List.length aj)<n):sw aj aV n bT cH (0:Int)=
  s4 (fun(i:Nat) (x:ah) (next:Option af)=>
    bif (x.1==aV) then
     cH (i:Int)
    else
     next) (
    bT) aj 0:=by
 exact gl (f:=fun n i=>sw aj aV n bT cH i) (l:=aj) (fun n i h=>by
  simp only[sw]
  rw[decide_eq_true (show(i:Int)<(List.length aj:Int) by omega)]
  simp only[cond_true,aM h,Int.toNat_natCast,au _ i h]) (fun n=>by
  simp only[sw]
  rw[decide_eq_false (by omega)]
  simp only[cond_false]) hl aj 0 n rfl (by omega) hn
theorem SD {aj:(List Int)} {aV:Int} {dE:Int→Option af} {bD:Int} (hl:(List.length aj)≤maxLen) {n:Nat} (hn:(List.length aj)<n):pP aj aV n dE bD (0:Int)=
  eh (fun(i:Nat) (x:Int) (bD:Int) (next:Int→Option af)=>
    bif (x==aV) then
     next (IntKind.wrap .i64 (bD+(1:Int)))
    else
     next bD) (fun(bD:Int)=>
    dE bD) aj 0 bD:=by
 exact fK (f:=fun n bD i=>pP aj aV n dE bD i) (l:=aj) (fun n i bD h=>by
  simp only[pP]
  rw[decide_eq_true (show(i:Int)<(List.length aj:Int) by omega)]
  simp only[cond_true,aM h,Int.toNat_natCast,au _ i h]) (fun n bD=>by
  simp only[pP]
  rw[decide_eq_false (by omega)]
  simp only[cond_false]) hl aj 0 n bD rfl (by omega) hn
theorem SE {N:Nat} {tU:(List ah)} {CT:Int} {jv:ah} {qO:Option af} {jd:Bool→Option af} (hl:(List.length jv.2.2.2.2.2)≤maxLen) {n:Nat} (hn:(List.length jv.2.2.2.2.2)<n):lV N tU CT jv n qO jd (0:Int)=
  s4 (fun(i:Nat) (x:_) (next:Option af)=>
    MN N tU x (fun(iQ:Int)=>
     bif (decide (iQ<(0:Int))) then
      jd false
     else
      bif (iQ==CT) then
       jd false
      else
       bif (bw iQ (List.length tU)) then
        bif (bw iQ (List.length tU)) then
         S91 N (List.getD tU (Int.toNat iQ) ab).2.2.2.2.2 jv.1 (fun(DS:Int)=>
          S91 N jv.2.2.2.2.2 (List.getD tU (Int.toNat iQ) ab).1 (fun(DT:Int)=>
           bif (DS != DT) then
            jd false
           else
            next))
        else none
       else none)) (
    qO) jv.2.2.2.2.2 0:=by
 exact gl (f:=fun n i=>lV N tU CT jv n qO jd i) (l:=jv.2.2.2.2.2) (fun n i h=>by
  simp only[lV]
  rw[decide_eq_true (show(i:Int)<(List.length jv.2.2.2.2.2:Int) by omega)]
  simp only[cond_true,aM h,Int.toNat_natCast,au _ i h]) (fun n=>by
  simp only[lV]
  rw[decide_eq_false (by omega)]
  simp only[cond_false]) hl jv.2.2.2.2.2 0 n rfl (by omega) hn
theorem SF {N:Nat} {aj:(List ah)} {og:Option af} {cR:Bool→Option af} (hl:(List.length aj)≤maxLen) {n:Nat} (hn:(List.length aj)<n):pQ N aj n og cR (0:Int)=
  s4 (fun(i:Nat) (x:ah) (next:Option af)=>
    mC N x.1 (1:Int) (99:Int) (fun(zu:Bool)=>
     bif (!zu) then
      cR false
     else
      mC N x.2.1 (1:Int) (99:Int) (fun(zw:Bool)=>
       bif (!zw) then
        cR false
       else
        mC N x.2.2.1 (0:Int) (List.length x.2.2.2.2.2:Int) (fun(RG:Bool)=>
         bif (!RG) then
          cR false
         else
          mC N x.2.2.2.2.1 (0:Int) (List.length x.2.2.2.2.2:Int) (fun(RH:Bool)=>
           bif (!RH) then
            cR false
           else
            mC N x.2.2.2.1 (0:Int) (100000:Int) (fun(RI:Bool)=>
             bif (!RI) then
              cR false
             else
              bif (decide ((List.length x.2.2.2.2.2:Int)>(20:Int))) then
               cR false
              else
               bif (decide ((i:Int)>(0:Int))) then
                bif (bw (IntKind.wrap .i64 ((i:Int) - (1:Int))) (List.length aj)) then
                 bif (decide ((List.getD aj (Int.toNat (IntKind.wrap .i64 ((i:Int) - (1:Int)))) ab).1≥x.1)) then
                  cR false
                 else
                  lV N aj (i:Int) x N next cR (0:Int)
                else none
               else
                lV N aj (i:Int) x N next cR (0:Int))))))) (
    og) aj 0:=by
 exact gl (f:=fun n i=>pQ N aj n og cR i) (l:=aj) (fun n i h=>by
  simp only[pQ]
  rw[decide_eq_true (show(i:Int)<(List.length aj:Int) by omega)]
  simp only[cond_true,aM h,Int.toNat_natCast,au _ i h]) (fun n=>by
  simp only[pQ]
  rw[decide_eq_false (by omega)]
  simp only[cond_false]) hl aj 0 n rfl (by omega) hn
theorem Xk {N:Nat} {gw:(List ah)} {qP:(List ByteArray)→Option af} {bW:(List ByteArray)} (hl:(List.length gw)≤maxLen) {n:Nat} (hn:(List.length gw)<n):zA N gw (List.length gw:Int) n qP bW (0:Int)=
  eh (fun(i:Nat) (x:ah) (bW:(List ByteArray)) (next:(List ByteArray)→Option af)=>
    zz N x.1 (fun(jw:ByteArray)=>
     bif (decide (ByteArray.size jw+ByteArray.size dU≤9223372036854775807)) then
      zz N x.2.2.1 (fun(jx:ByteArray)=>
       bif (decide (ByteArray.size (jw++dU)+ByteArray.size jx≤9223372036854775807)) then
        bif (decide (ByteArray.size ((jw++dU)++jx)+ByteArray.size jW≤9223372036854775807)) then
         zz N (List.length x.2.2.2.2.2:Int) (fun(pS:ByteArray)=>
          bif (decide (ByteArray.size (((jw++dU)++jx)++jW)+ByteArray.size pS≤9223372036854775807)) then
           bif (decide (ByteArray.size ((((jw++dU)++jx)++jW)++pS)+ByteArray.size oY≤9223372036854775807)) then
            zz N x.2.2.2.1 (fun(zB:ByteArray)=>
             bif (decide (ByteArray.size (((((jw++dU)++jx)++jW)++pS)++oY)+ByteArray.size zB≤9223372036854775807)) then
              bif (decide ((List.length bW+List.length [((((((jw++dU)++jx)++jW)++pS)++oY)++zB)])*1≤4398046511104)) then
               next (bW++[((((((jw++dU)++jx)++jW)++pS)++oY)++zB)])
              else none
             else none)
           else none
          else none)
        else none
       else none)
     else none)) (fun(bW:(List ByteArray))=>
    qP bW) gw 0 bW:=by
 exact fK (f:=fun n bW i=>zA N gw (List.length gw:Int) n qP bW i) (l:=gw) (fun n i bW h=>by
  simp only[zA]
  rw[decide_eq_true (show(i:Int)<(List.length gw:Int) by omega)]
  simp only[cond_true,aM h,Int.toNat_natCast,au _ i h]) (fun n bW=>by
  simp only[zA]
  rw[decide_eq_false (by omega)]
  simp only[cond_false]) hl gw 0 n bW rfl (by omega) hn
theorem SG {aj:(List bn)} {fL:(List bn)→Option af} {ay:(List bn)} (hl:(List.length aj)≤maxLen) {n:Nat} (hn:(List.length aj)<n):sy aj n fL ay (0:Int)=
  eh (fun(i:Nat) (x:bn) (ay:(List bn)) (next:(List bn)→Option af)=>
    bif (decide ((List.length ([]:(List Int))+List.length x.2.2)*1≤4398046511104)) then
     bif (decide ((List.length ay+List.length [(x.1,(x.2.1,(([]:(List Int))++x.2.2)))])*3≤4398046511104)) then
      next (ay++[(x.1,(x.2.1,(([]:(List Int))++x.2.2)))])
     else none
    else none) (fun(ay:(List bn))=>
    fL ay) aj 0 ay:=by
 exact fK (f:=fun n ay i=>sy aj n fL ay i) (l:=aj) (fun n i ay h=>by
  simp only[sy]
  rw[decide_eq_true (show(i:Int)<(List.length aj:Int) by omega)]
  simp only[cond_true,aM h,Int.toNat_natCast,au _ i h]) (fun n ay=>by
  simp only[sy]
  rw[decide_eq_false (by omega)]
  simp only[cond_false]) hl aj 0 n ay rfl (by omega) hn
theorem Pw {N:Nat} {aj:(List Int)} {gN:Int→Option af} {ay:Int} (hl:(List.length aj)≤maxLen) {n:Nat} (hn:(List.length aj)<n):oh N aj n gN ay (0:Int)=
  eh (fun(i:Nat) (x:Int) (ay:Int) (next:Int→Option af)=>
    RU N x (2147483647:Int) (fun(RV:Int)=>
     next (Int.tmod (IntKind.wrap .i64 ((IntKind.wrap .i64 ((IntKind.wrap .i64 (ay*(1000003:Int)))+RV))+(13:Int))) (2147483647:Int)))) (fun(ay:Int)=>
    gN ay) aj 0 ay:=by
 exact fK (f:=fun n ay i=>oh N aj n gN ay i) (l:=aj) (fun n i ay h=>by
  simp only[oh]
  rw[decide_eq_true (show(i:Int)<(List.length aj:Int) by omega)]
  simp only[cond_true,aM h,Int.toNat_natCast,au _ i h]) (fun n ay=>by
  simp only[oh]
  rw[decide_eq_false (by omega)]
  simp only[cond_false]) hl aj 0 n ay rfl (by omega) hn
theorem SH {N:Nat} {aj:(List br)} {dF:Option af} {jL:Bool→Option af} {ay:Int} (hl:(List.length aj)≤maxLen) {n:Nat} (hn:(List.length aj)<n):sz N aj n dF jL ay (0:Int)=
  eh (fun(i:Nat) (x:br) (ay:Int) (next:Int→Option af)=>
    bif (decide ((List.length aj:Int)≤(200:Int))) then
     S89 N ay x (fun(mE:Int)=>
      bif (x.1 != (IntKind.wrap .i64 ((i:Int)+(1:Int)))) then
       jL false
      else
       mC N x.2.1 (1:Int) (9:Int) (fun(tW:Bool)=>
        bif (!tW) then
         jL false
        else
         mC N x.2.2.1 (0:Int) (99:Int) (fun(Hg:Bool)=>
          bif (!Hg) then
           jL false
          else
           bif (x.2.2.2 != mE) then
            jL false
           else
            next mE)))
    else
     dF) (fun(ay:Int)=>
    dF) aj 0 ay:=by
 exact fK (f:=fun n ay i=>sz N aj n dF jL ay i) (l:=aj) (fun n i ay h=>by
  simp only[sz]
  rw[decide_eq_true (show(i:Int)<(List.length aj:Int) by omega)]
  simp only[cond_true,aM h,Int.toNat_natCast,au _ i h]) (fun n ay=>by
  simp only[sz]
  rw[decide_eq_false (by omega)]
  simp only[cond_false]) hl aj 0 n ay rfl (by omega) hn
theorem SI {N:Nat} {ig:(List bn)} {ij:Int} {ik:Option af} {kj:Bool→Option af} (hc0:(bw ij (List.length ig))=true) (hl:(List.length (List.getD ig (Int.toNat ij) ar).2.2)≤maxLen) {n:Nat} (hn:(List.length (List.getD ig (Int.toNat ij) ar).2.2)<n):jM N ig ij n ik kj (0:Int)=
  s4 (fun(i:Nat) (x:_) (next:Option af)=>
    mC N x (1:Int) (99:Int) (fun(KP:Bool)=>
     bif (!KP) then
      kj false
     else
      bif (decide ((i:Int)>(0:Int))) then
       bif (bw (IntKind.wrap .i64 ((i:Int) - (1:Int))) (List.length (List.getD ig (Int.toNat ij) ar).2.2)) then
        bif (decide ((List.getD (List.getD ig (Int.toNat ij) ar).2.2 (Int.toNat (IntKind.wrap .i64 ((i:Int) - (1:Int)))) (0:Int))≥x)) then
         kj false
        else
         next
       else none
      else
       next)) (
    ik) ((List.getD ig (Int.toNat ij) ar).2.2) 0:=by
 exact gl (f:=fun n i=>jM N ig ij n ik kj i) (l:=((List.getD ig (Int.toNat ij) ar).2.2)) (fun n i h=>by
  simp only[jM,hc0,cond_true]
  rw[decide_eq_true (show(i:Int)<(List.length ((List.getD ig (Int.toNat ij) ar).2.2):Int) by omega)]
  simp only[cond_true,aM h,Int.toNat_natCast,au _ i h]) (fun n=>by
  simp only[jM,hc0,cond_true]
  rw[decide_eq_false (by omega)]
  simp only[cond_false]) hl ((List.getD ig (Int.toNat ij) ar).2.2) 0 n rfl (by omega) hn
theorem SJ {N:Nat} {aj:(List bn)} {om:Option af} {fe:Bool→Option af} (hl:(List.length aj)≤maxLen) {n:Nat} (hn:(List.length aj)<n):pU N aj n om fe (0:Int)=
  s4 (fun(i:Nat) (x:bn) (next:Option af)=>
    mC N x.1 (1:Int) (99:Int) (fun(RX:Bool)=>
     bif (!RX) then
      fe false
     else
      mC N x.2.1 (1:Int) (99:Int) (fun(zw:Bool)=>
       bif (!zw) then
        fe false
       else
        bif (decide ((i:Int)>(0:Int))) then
         bif (bw (IntKind.wrap .i64 ((i:Int) - (1:Int))) (List.length aj)) then
          bif (decide ((List.getD aj (Int.toNat (IntKind.wrap .i64 ((i:Int) - (1:Int)))) ar).1≥x.1)) then
           fe false
          else
           jM N aj (i:Int) N next fe (0:Int)
         else none
        else
         jM N aj (i:Int) N next fe (0:Int)))) (
    om) aj 0:=by
 exact gl (f:=fun n i=>pU N aj n om fe i) (l:=aj) (fun n i h=>by
  simp only[pU]
  rw[decide_eq_true (show(i:Int)<(List.length aj:Int) by omega)]
  simp only[cond_true,aM h,Int.toNat_natCast,au _ i h]) (fun n=>by
  simp only[pU]
  rw[decide_eq_false (by omega)]
  simp only[cond_false]) hl aj 0 n rfl (by omega) hn
theorem SK {N:Nat} {aj:(List ah)} {gN:Int→Option af} {ay:Int} (hl:(List.length aj)≤maxLen) {n:Nat} (hn:(List.length aj)<n):sA N aj n gN ay (0:Int)=
  eh (fun(i:Nat) (x:ah) (ay:Int) (next:Int→Option af)=>
    JT N aj (fun(RY:Bool)=>
     bif RY then
      next (IntKind.wrap .i64 (ay+x.2.2.1))
     else
      gN ay)) (fun(ay:Int)=>
    gN ay) aj 0 ay:=by
 exact fK (f:=fun n ay i=>sA N aj n gN ay i) (l:=aj) (fun n i ay h=>by
  simp only[sA]
  rw[decide_eq_true (show(i:Int)<(List.length aj:Int) by omega)]
  simp only[cond_true,aM h,Int.toNat_natCast,au _ i h]) (fun n ay=>by
  simp only[sA]
  rw[decide_eq_false (by omega)]
  simp only[cond_false]) hl aj 0 n ay rfl (by omega) hn
theorem SL {aj:(List Int)} {aV:Int} {bT:Option af} {cH:Bool→Option af} (hl:(List.length aj)≤maxLen) {n:Nat} (hn:(List.length aj)<n):sB aj aV n bT cH (0:Int)=
  s4 (fun(i:Nat) (x:Int) (next:Option af)=>
    bif (x==aV) then
     cH true
    else
     next) (
    bT) aj 0:=by
 exact gl (f:=fun n i=>sB aj aV n bT cH i) (l:=aj) (fun n i h=>by
  simp only[sB]
  rw[decide_eq_true (show(i:Int)<(List.length aj:Int) by omega)]
  simp only[cond_true,aM h,Int.toNat_natCast,au _ i h]) (fun n=>by
  simp only[sB]
  rw[decide_eq_false (by omega)]
  simp only[cond_false]) hl aj 0 n rfl (by omega) hn
theorem SM {N:Nat} {aj:(List ah)} {aV:(List cz)} {bU:(List Int)→Option af} {je:Bool→Option af} {bD:(List Int)} (hl:(List.length aV)≤maxLen) {n:Nat} (hn:(List.length aV)<n):sC N aj aV n bU je bD (0:Int)=
  eh (fun(i:Nat) (x:cz) (bD:(List Int)) (next:(List Int)→Option af)=>
    S92 N aj x.1 x.2 (fun(Hi:Bool)=>
     bif (!Hi) then
      je false
     else
      KQ N bD x.1 (fun(Hj:Bool)=>
       bif Hj then
        je false
       else
        KQ N bD x.2 (fun(Hk:Bool)=>
         bif Hk then
          je false
         else
          bif (decide ((List.length bD+List.length [x.1,x.2])*1≤4398046511104)) then
           next (bD++[x.1,x.2])
          else none)))) (fun(bD:(List Int))=>
    bU bD) aV 0 bD:=by
 exact fK (f:=fun n bD i=>sC N aj aV n bU je bD i) (l:=aV) (fun n i bD h=>by
  simp only[sC]
  rw[decide_eq_true (show(i:Int)<(List.length aV:Int) by omega)]
  simp only[cond_true,aM h,Int.toNat_natCast,au _ i h]) (fun n bD=>by
  simp only[sC]
  rw[decide_eq_false (by omega)]
  simp only[cond_false]) hl aV 0 n bD rfl (by omega) hn
theorem SN {aj:(List bn)} {aV:Int} {bT:Option af} {cH:Int→Option af} (hl:(List.length aj)≤maxLen) {n:Nat} (hn:(List.length aj)<n):sD aj aV n bT cH (0:Int)=
  s4 (fun(i:Nat) (x:bn) (next:Option af)=>
    bif (x.1==aV) then
     cH (i:Int)
    else
     next) (
    bT) aj 0:=by
 exact gl (f:=fun n i=>sD aj aV n bT cH i) (l:=aj) (fun n i h=>by
  simp only[sD]
  rw[decide_eq_true (show(i:Int)<(List.length aj:Int) by omega)]
  simp only[cond_true,aM h,Int.toNat_natCast,au _ i h]) (fun n=>by
  simp only[sD]
  rw[decide_eq_false (by omega)]
  simp only[cond_false]) hl aj 0 n rfl (by omega) hn
theorem SO {N:Nat} {Hl:(List ah)} {B0:(List bn)} {vf:(List cz)} {oo:(List Int)} {il:Option af} {ff:Bool→Option af} (hl:(List.length vf)≤maxLen) {n:Nat} (hn:(List.length vf)<n):sE N Hl B0 vf oo n il ff (0:Int)=
  s4 (fun(i:Nat) (x:cz) (next:Option af)=>
    bif (bw (i:Int) (List.length oo)) then
     R0 N B0 (List.getD oo (Int.toNat (i:Int)) (0:Int)) (fun(zE:Int)=>
      bif (decide (zE<(0:Int))) then
       ff false
      else
       bif (decide ((0:Int)≤(0:Int))&&decide ((0:Int)≤(i:Int))&&decide ((i:Int)≤(List.length oo:Int))) then
        bif (bw (i:Int) (List.length oo)) then
         KQ N (List.drop (Int.toNat (0:Int)) (List.take (Int.toNat (i:Int)) oo)) (List.getD oo (Int.toNat (i:Int)) (0:Int)) (fun(R2:Bool)=>
          bif R2 then
           ff false
          else
           bif (bw zE (List.length B0)) then
            S96 N Hl (List.getD B0 (Int.toNat zE) ar) x (fun(KR:Bool)=>
             bif (!KR) then
              ff false
             else
              next)
           else none)
        else none
       else none)
    else none) (
    il) vf 0:=by
 exact gl (f:=fun n i=>sE N Hl B0 vf oo n il ff i) (l:=vf) (fun n i h=>by
  simp only[sE]
  rw[decide_eq_true (show(i:Int)<(List.length vf:Int) by omega)]
  simp only[cond_true,aM h,Int.toNat_natCast,au _ i h]) (fun n=>by
  simp only[sE]
  rw[decide_eq_false (by omega)]
  simp only[cond_false]) hl vf 0 n rfl (by omega) hn
theorem SP {N:Nat} {km:aa} {zF:a7} {oq:Option af} {kn:Bool→Option af} (hl:(List.length km.2.2.2.2.1)≤maxLen) {n:Nat} (hn:(List.length km.2.2.2.2.1)<n):pV N km zF n oq kn (0:Int)=
  s4 (fun(i:Nat) (x:_) (next:Option af)=>
    bif (!((decide ((x.1:Int)=zF.1))&&((decide ((x.2.1:Int)=zF.2.1))&&(decide ((x.2.2:Int)=zF.2.2))))) then
     YC N x (fun(KT:Bool)=>
      bif (!KT) then
       kn false
      else
       bif (bw (i:Int) (List.length km.2.2.2.1)) then
        bif (x.1 != (List.getD km.2.2.2.1 (Int.toNat (i:Int)) (0:Int))) then
         kn false
        else
         next
       else none)
    else
     next) (
    oq) km.2.2.2.2.1 0:=by
 exact gl (f:=fun n i=>pV N km zF n oq kn i) (l:=km.2.2.2.2.1) (fun n i h=>by
  simp only[pV]
  rw[decide_eq_true (show(i:Int)<(List.length km.2.2.2.2.1:Int) by omega)]
  simp only[cond_true,aM h,Int.toNat_natCast,au _ i h]) (fun n=>by
  simp only[pV]
  rw[decide_eq_false (by omega)]
  simp only[cond_false]) hl km.2.2.2.2.1 0 n rfl (by omega) hn
theorem SQ {aV:Int} {eK:Int} {ck:aa} {DW:aa} {DX:aa} {bU:Int→Option af} (hl:(List.length ck.1)≤maxLen) {n:Nat} (hn:(List.length ck.1)<n):pW aV eK ck DW DX n bU (0:Int)=
  s4 (fun(i:Nat) (x:_) (next:Option af)=>
    bif (decide (x.1<aV)) then
     next
    else
     bU (i:Int)) (
    bU (List.length ck.1:Int)) ck.1 0:=by
 exact gl (f:=fun n i=>pW aV eK ck DW DX n bU i) (l:=ck.1) (fun n i h=>by
  simp only[pW]
  rw[decide_eq_true (show(i:Int)<(List.length ck.1:Int) by omega)]
  simp only[cond_true,aM h,Int.toNat_natCast,au _ i h]) (fun n=>by
  simp only[pW]
  rw[decide_eq_false (by omega)]
  simp only[cond_false]) hl ck.1 0 n rfl (by omega) hn
theorem SR {aV:Int} {eK:Int} {ck:aa} {DW:aa} {DX:aa} {bU:Int→Option af} (hl:(List.length ck.2.1)≤maxLen) {n:Nat} (hn:(List.length ck.2.1)<n):pX aV eK ck DW DX n bU (0:Int)=
  s4 (fun(i:Nat) (x:_) (next:Option af)=>
    bif (decide (x.1<aV)) then
     next
    else
     bU (i:Int)) (
    bU (List.length ck.2.1:Int)) ck.2.1 0:=by
 exact gl (f:=fun n i=>pX aV eK ck DW DX n bU i) (l:=ck.2.1) (fun n i h=>by
  simp only[pX]
  rw[decide_eq_true (show(i:Int)<(List.length ck.2.1:Int) by omega)]
  simp only[cond_true,aM h,Int.toNat_natCast,au _ i h]) (fun n=>by
  simp only[pX]
  rw[decide_eq_false (by omega)]
  simp only[cond_false]) hl ck.2.1 0 n rfl (by omega) hn
theorem CX {jy:(List ah)} {nE:(List Int)→Option af} {j8:(List Int)} (hl:(List.length jy)≤maxLen) {n:Nat} (hn:(List.length jy)<n):mF jy n nE j8 (0:Int)=
  eh (fun(i:Nat) (x:ah) (j8:(List Int)) (next:(List Int)→Option af)=>
    bif (decide ((List.length j8+List.length [x.1])*1≤4398046511104)) then
     next (j8++[x.1])
    else none) (fun(j8:(List Int))=>
    nE j8) jy 0 j8:=by
 exact fK (f:=fun n j8 i=>mF jy n nE j8 i) (l:=jy) (fun n i j8 h=>by
  simp only[mF]
  rw[decide_eq_true (show(i:Int)<(List.length jy:Int) by omega)]
  simp only[cond_true,aM h,Int.toNat_natCast,au _ i h]) (fun n j8=>by
  simp only[mF]
  rw[decide_eq_false (by omega)]
  simp only[cond_false]) hl jy 0 n j8 rfl (by omega) hn
theorem SS {N:Nat} {aj:(List ah)} {mG:(List ah)→Option af} {ay:(List ah)} (hl:(List.length aj)≤maxLen) {n:Nat} (hn:(List.length aj)<n):sH N aj n mG ay (0:Int)=
  eh (fun(i:Nat) (x:ah) (ay:(List ah)) (next:(List ah)→Option af)=>
    JT N aj (fun(ga:Bool)=>
     bif ga then
      sG N aj ay (i:Int) N (fun(gy:Int)=>
       bif (decide ((0:Int)≤(0:Int))&&decide ((0:Int)≤gy)&&decide (gy≤(List.length ay:Int))) then
        bif (decide ((0:Int)≤gy)&&decide (gy≤(List.length ay:Int))&&decide ((List.length ay:Int)≤(List.length ay:Int))) then
         bif (decide ((List.length ([]:(List ah))+List.length (List.drop 0 (List.take (Int.toNat gy) ay)))*6≤4398046511104)) then
          bif (decide ((List.length (([]:(List ah))++(List.drop 0 (List.take (Int.toNat gy) ay)))+List.length [x])*6≤4398046511104)) then
           bif (decide ((List.length ((([]:(List ah))++(List.drop 0 (List.take (Int.toNat gy) ay)))++[x])+List.length (List.drop (Int.toNat gy) (List.take (Int.toNat (List.length ay:Int)) ay)))*6≤4398046511104)) then
            next (((([]:(List ah))++(List.drop 0 (List.take (Int.toNat gy) ay)))++[x])++(List.drop (Int.toNat gy) (List.take (Int.toNat (List.length ay:Int)) ay)))
           else none
          else none
         else none
        else none
       else none) (List.length ay:Int)
     else
      mG ay)) (fun(ay:(List ah))=>
    mG ay) aj 0 ay:=by
 exact fK (f:=fun n ay i=>sH N aj n mG ay i) (l:=aj) (fun n i ay h=>by
  simp only[sH]
  rw[decide_eq_true (show(i:Int)<(List.length aj:Int) by omega)]
  simp only[cond_true,aM h,Int.toNat_natCast,au _ i h]) (fun n ay=>by
  simp only[sH]
  rw[decide_eq_false (by omega)]
  simp only[cond_false]) hl aj 0 n ay rfl (by omega) hn
theorem SU {iy:aa} {bL:a7} {sJ:(List Int)→Option af} {ay:(List Int)} (hl:(List.length iy.2.2.2.2.1)≤maxLen) {n:Nat} (hn:(List.length iy.2.2.2.2.1)<n):pZ iy bL n sJ ay (0:Int)=
  eh (fun(i:Nat) (x:_) (ay:(List Int)) (next:(List Int)→Option af)=>
    bif ((decide ((x.1:Int)=bL.1))&&((decide ((x.2.1:Int)=bL.2.1))&&(decide ((x.2.2:Int)=bL.2.2)))) then
     bif (decide ((List.length ay+List.length [(i:Int)])*1≤4398046511104)) then
      next (ay++[(i:Int)])
     else none
    else
     next ay) (fun(ay:(List Int))=>
    sJ ay) iy.2.2.2.2.1 0 ay:=by
 exact fK (f:=fun n ay i=>pZ iy bL n sJ ay i) (l:=iy.2.2.2.2.1) (fun n i ay h=>by
  simp only[pZ]
  rw[decide_eq_true (show(i:Int)<(List.length iy.2.2.2.2.1:Int) by omega)]
  simp only[cond_true,aM h,Int.toNat_natCast,au _ i h]) (fun n ay=>by
  simp only[pZ]
  rw[decide_eq_false (by omega)]
  simp only[cond_false]) hl iy.2.2.2.2.1 0 n ay rfl (by omega) hn
theorem SV {N:Nat} {aj:(List a7)} {bT:Option af} {cH:Bool→Option af} (hl:(List.length aj)≤maxLen) {n:Nat} (hn:(List.length aj)<n):p4 N aj n bT cH (0:Int)=
  s4 (fun(i:Nat) (x:a7) (next:Option af)=>
    YC N x (fun(R8:Bool)=>
     bif (!R8) then
      cH false
     else
      bif (decide ((i:Int)>(0:Int))) then
       bif (bw (IntKind.wrap .i64 ((i:Int) - (1:Int))) (List.length aj)) then
        bif (decide ((List.getD aj (Int.toNat (IntKind.wrap .i64 ((i:Int) - (1:Int)))) aT).1≥x.1)) then
         cH false
        else
         next
       else none
      else
       next)) (
    bT) aj 0:=by
 exact gl (f:=fun n i=>p4 N aj n bT cH i) (l:=aj) (fun n i h=>by
  simp only[p4]
  rw[decide_eq_true (show(i:Int)<(List.length aj:Int) by omega)]
  simp only[cond_true,aM h,Int.toNat_natCast,au _ i h]) (fun n=>by
  simp only[p4]
  rw[decide_eq_false (by omega)]
  simp only[cond_false]) hl aj 0 n rfl (by omega) hn
theorem SW {N:Nat} {aj:(List a7)} {aV:Int} {bU:Int→Option af} {bD:Int} (hl:(List.length aj)≤maxLen) {n:Nat} (hn:(List.length aj)<n):p5 N aj aV n bU bD (0:Int)=
  eh (fun(i:Nat) (x:a7) (bD:Int) (next:Int→Option af)=>
    S77 N aj (fun(Ho:Bool)=>
     bif Ho then
      S80 N x (fun(Hd:Int)=>
       bif (Hd==aV) then
        next (IntKind.wrap .i64 (bD+(1:Int)))
       else
        next bD)
     else
      bU bD)) (fun(bD:Int)=>
    bU bD) aj 0 bD:=by
 exact fK (f:=fun n bD i=>p5 N aj aV n bU bD i) (l:=aj) (fun n i bD h=>by
  simp only[p5]
  rw[decide_eq_true (show(i:Int)<(List.length aj:Int) by omega)]
  simp only[cond_true,aM h,Int.toNat_natCast,au _ i h]) (fun n bD=>by
  simp only[p5]
  rw[decide_eq_false (by omega)]
  simp only[cond_false]) hl aj 0 n bD rfl (by omega) hn
theorem SX {aj:(List Int)} {aV:Int} {bT:Int→Option af} (hl:(List.length aj)≤maxLen) {n:Nat} (hn:(List.length aj)<n):sK aj aV n bT (0:Int)=
  s4 (fun(i:Nat) (x:Int) (next:Option af)=>
    bif (decide (x<aV)) then
     next
    else
     bT (i:Int)) (
    bT (List.length aj:Int)) aj 0:=by
 exact gl (f:=fun n i=>sK aj aV n bT i) (l:=aj) (fun n i h=>by
  simp only[sK]
  rw[decide_eq_true (show(i:Int)<(List.length aj:Int) by omega)]
  simp only[cond_true,aM h,Int.toNat_natCast,au _ i h]) (fun n=>by
  simp only[sK]
  rw[decide_eq_false (by omega)]
  simp only[cond_false]) hl aj 0 n rfl (by omega) hn
theorem SY {N:Nat} {eT:aa} {Sa:aa} {ot:aa→Bool→Option af} {dB:aa} {tY:Bool} (hl:(List.length eT.2.2.1)≤maxLen) {n:Nat} (hn:(List.length eT.2.2.1)<n):p6 N eT Sa n ot dB tY (0:Int)=
  Pr (fun(i:Nat) (x:_) (dB:aa) (tY:Bool) (next:aa→Bool→Option af)=>
    bif (bw (i:Int) (List.length eT.2.2.2.2.1)) then
     S54 N [(List.getD eT.2.2.2.2.1 (Int.toNat (i:Int)) aT)] (fun(zJ:Int)=>
      Yw N dB.1 x.1 x.2 zJ (List.getD eT.2.2.2.2.1 (Int.toNat (i:Int)) aT).2.1 (List.getD eT.2.2.2.2.1 (Int.toNat (i:Int)) aT).2.2 (fun(p7:(List ah)) (zK:Bool)=>
       bif tY then
        bif (bw (i:Int) (List.length eT.2.2.2.1)) then
         R0 N dB.2.1 (List.getD eT.2.2.2.1 (Int.toNat (i:Int)) (0:Int)) (fun(eL:Int)=>
          bif (bw eL (List.length dB.2.1)) then
           KW N (List.getD dB.2.1 (Int.toNat eL) ar).2.2 x.1 (fun(zL:(List Int))=>
            KW N zL x.2 (fun(tZ:(List Int))=>
             bif (bw eL (List.length dB.2.1)) then
              next (p7,((List.set dB.2.1 (Int.toNat eL) ((List.getD dB.2.1 (Int.toNat eL) ar).1,((List.getD dB.2.1 (Int.toNat eL) ar).2.1,tZ))),dB.2.2)) zK
             else none))
          else none)
        else none
       else
        bif (bw (i:Int) (List.length eT.2.2.2.1)) then
         R0 N dB.2.1 (List.getD eT.2.2.2.1 (Int.toNat (i:Int)) (0:Int)) (fun(eM:Int)=>
          bif (bw eM (List.length dB.2.1)) then
           KW N (List.getD dB.2.1 (Int.toNat eM) ar).2.2 x.1 (fun(zM:(List Int))=>
            KW N zM x.2 (fun(ua:(List Int))=>
             bif (bw eM (List.length dB.2.1)) then
              next (p7,((List.set dB.2.1 (Int.toNat eM) ((List.getD dB.2.1 (Int.toNat eM) ar).1,((List.getD dB.2.1 (Int.toNat eM) ar).2.1,ua))),dB.2.2)) false
             else none))
          else none)
        else none))
    else none) (fun(dB:aa) (tY:Bool)=>
    ot dB tY) eT.2.2.1 0 dB tY:=by
 exact RD (f:=fun n dB tY i=>p6 N eT Sa n ot dB tY i) (l:=eT.2.2.1) (fun n i dB tY h=>by
  simp only[p6]
  rw[decide_eq_true (show(i:Int)<(List.length eT.2.2.1:Int) by omega)]
  simp only[cond_true,aM h,Int.toNat_natCast,au _ i h]) (fun n dB tY=>by
  simp only[p6]
  rw[decide_eq_false (by omega)]
  simp only[cond_false]) hl eT.2.2.1 0 n dB tY rfl (by omega) hn
theorem Xl {N:Nat} {iy:(List Int)} {im:(List cz)} {jf:(List ByteArray)→Option af} {mS:(List ByteArray)} (hl:(List.length im)≤maxLen) {n:Nat} (hn:(List.length im)<n):wc N iy im (List.length im:Int) n jf mS (0:Int)=
  eh (fun(i:Nat) (x:cz) (mS:(List ByteArray)) (next:(List ByteArray)→Option af)=>
    bif (decide ((i:Int)<(List.length iy:Int))) then
     bif (bw (i:Int) (List.length iy)) then
      zz N (List.getD iy (Int.toNat (i:Int)) (0:Int)) (fun(Hq:ByteArray)=>
       zz N x.1 (fun(gb:ByteArray)=>
        bif (decide (ByteArray.size gb+ByteArray.size cY≤9223372036854775807)) then
         zz N x.2 (fun(fM:ByteArray)=>
          bif (decide (ByteArray.size (gb++cY)+ByteArray.size fM≤9223372036854775807)) then
           bif (decide (ByteArray.size ((gb++cY)++fM)+ByteArray.size jY≤9223372036854775807)) then
            bif (decide (ByteArray.size (((gb++cY)++fM)++jY)+ByteArray.size Hq≤9223372036854775807)) then
             bif (decide ((List.length mS+List.length [((((gb++cY)++fM)++jY)++Hq)])*1≤4398046511104)) then
              next (mS++[((((gb++cY)++fM)++jY)++Hq)])
             else none
            else none
           else none
          else none)
        else none))
     else none
    else
     zz N x.1 (fun(gb:ByteArray)=>
      bif (decide (ByteArray.size gb+ByteArray.size cY≤9223372036854775807)) then
       zz N x.2 (fun(fM:ByteArray)=>
        bif (decide (ByteArray.size (gb++cY)+ByteArray.size fM≤9223372036854775807)) then
         bif (decide (ByteArray.size ((gb++cY)++fM)+ByteArray.size jY≤9223372036854775807)) then
          bif (decide (ByteArray.size (((gb++cY)++fM)++jY)+ByteArray.size jX≤9223372036854775807)) then
           bif (decide ((List.length mS+List.length [((((gb++cY)++fM)++jY)++jX)])*1≤4398046511104)) then
            next (mS++[((((gb++cY)++fM)++jY)++jX)])
           else none
          else none
         else none
        else none)
      else none)) (fun(mS:(List ByteArray))=>
    jf mS) im 0 mS:=by
 exact fK (f:=fun n mS i=>wc N iy im (List.length im:Int) n jf mS i) (l:=im) (fun n i mS h=>by
  simp only[wc,MW]
  rw[decide_eq_true (show(i:Int)<(List.length im:Int) by omega)]
  simp only[cond_true,aM h,Int.toNat_natCast,au _ i h]) (fun n mS=>by
  simp only[wc,MW]
  rw[decide_eq_false (by omega)]
  simp only[cond_false]) hl im 0 n mS rfl (by omega) hn
theorem SZ {gm:(List a7)} {dE:(List Int)→Option af} {bW:(List Int)} (hl:(List.length gm)≤maxLen) {n:Nat} (hn:(List.length gm)<n):qa gm (List.length gm:Int) n dE bW (0:Int)=
  eh (fun(i:Nat) (x:a7) (bW:(List Int)) (next:(List Int)→Option af)=>
    bif ((decide ((x.1:Int)=(0:Int)))&&((decide ((x.2.1:Int)=(0:Int)))&&(decide ((x.2.2:Int)=(0:Int))))) then
     bif (decide ((List.length bW+List.length [(i:Int)])*1≤4398046511104)) then
      next (bW++[(i:Int)])
     else none
    else
     next bW) (fun(bW:(List Int))=>
    dE bW) gm 0 bW:=by
 exact fK (f:=fun n bW i=>qa gm (List.length gm:Int) n dE bW i) (l:=gm) (fun n i bW h=>by
  simp only[qa]
  rw[decide_eq_true (show(i:Int)<(List.length gm:Int) by omega)]
  simp only[cond_true,aM h,Int.toNat_natCast,au _ i h]) (fun n bW=>by
  simp only[qa]
  rw[decide_eq_false (by omega)]
  simp only[cond_false]) hl gm 0 n bW rfl (by omega) hn
theorem S4 {N:Nat} {gw:(List Int)} {dE:(List ByteArray)→Option af} {bW:(List ByteArray)} (hl:(List.length gw)≤maxLen) {n:Nat} (hn:(List.length gw)<n):sO N gw (List.length gw:Int) n dE bW (0:Int)=
  eh (fun(i:Nat) (x:Int) (bW:(List ByteArray)) (next:(List ByteArray)→Option af)=>
    zz N x (fun(oZ:ByteArray)=>
     bif (decide ((List.length bW+List.length [oZ])*1≤4398046511104)) then
      next (bW++[oZ])
     else none)) (fun(bW:(List ByteArray))=>
    dE bW) gw 0 bW:=by
 exact fK (f:=fun n bW i=>sO N gw (List.length gw:Int) n dE bW i) (l:=gw) (fun n i bW h=>by
  simp only[sO]
  rw[decide_eq_true (show(i:Int)<(List.length gw:Int) by omega)]
  simp only[cond_true,aM h,Int.toNat_natCast,au _ i h]) (fun n bW=>by
  simp only[sO]
  rw[decide_eq_false (by omega)]
  simp only[cond_false]) hl gw 0 n bW rfl (by omega) hn
theorem S6 {N:Nat} {aj:(List a7)} {sQ:Option af} {iR:Bool→Option af} (hl:(List.length aj)≤maxLen) {n:Nat} (hn:(List.length aj)<n):qb N aj n sQ iR (0:Int)=
  s4 (fun(i:Nat) (x:a7) (next:Option af)=>
    mC N x.1 (1:Int) (99:Int) (fun(Sj:Bool)=>
     bif (!Sj) then
      iR false
     else
      mC N x.2.1 (1:Int) (2:Int) (fun(mE:Bool)=>
       bif (!mE) then
        iR false
       else
        mC N x.2.2 (0:Int) (4:Int) (fun(tW:Bool)=>
         bif (!tW) then
          iR false
         else
          bif (decide ((i:Int)>(0:Int))) then
           bif (bw (IntKind.wrap .i64 ((i:Int) - (1:Int))) (List.length aj)) then
            bif (decide ((List.getD aj (Int.toNat (IntKind.wrap .i64 ((i:Int) - (1:Int)))) aT).1≥x.1)) then
             iR false
            else
             next
           else none
          else
           next)))) (
    sQ) aj 0:=by
 exact gl (f:=fun n i=>qb N aj n sQ iR i) (l:=aj) (fun n i h=>by
  simp only[qb]
  rw[decide_eq_true (show(i:Int)<(List.length aj:Int) by omega)]
  simp only[cond_true,aM h,Int.toNat_natCast,au _ i h]) (fun n=>by
  simp only[qb]
  rw[decide_eq_false (by omega)]
  simp only[cond_false]) hl aj 0 n rfl (by omega) hn
theorem S8 {aj:(List a7)} {aV:Int} {eK:Int} {qd:Int→Option af} (hl:(List.length aj)≤maxLen) {n:Nat} (hn:(List.length aj)<n):qc aj aV eK n qd (0:Int)=
  s4 (fun(i:Nat) (x:a7) (next:Option af)=>
    bif (decide (x.1<aV)) then
     next
    else
     qd (i:Int)) (
    qd (List.length aj:Int)) aj 0:=by
 exact gl (f:=fun n i=>qc aj aV eK n qd i) (l:=aj) (fun n i h=>by
  simp only[qc]
  rw[decide_eq_true (show(i:Int)<(List.length aj:Int) by omega)]
  simp only[cond_true,aM h,Int.toNat_natCast,au _ i h]) (fun n=>by
  simp only[qc]
  rw[decide_eq_false (by omega)]
  simp only[cond_false]) hl aj 0 n rfl (by omega) hn
theorem S9 {N:Nat} {gm:(List a7)} {dF:(List ByteArray)→Option af} {bW:(List ByteArray)} (hl:(List.length gm)≤maxLen) {n:Nat} (hn:(List.length gm)<n):qf N gm (List.length gm:Int) n dF bW (0:Int)=
  eh (fun(i:Nat) (x:a7) (bW:(List ByteArray)) (next:(List ByteArray)→Option af)=>
    I23 N x (fun(oZ:ByteArray)=>
     bif (ByteArray.toList oZ==ByteArray.toList RE) then
      bif (decide ((List.length bW+List.length [jX])*1≤4398046511104)) then
       next (bW++[jX])
      else none
     else
      bif (decide ((List.length bW+List.length [oZ])*1≤4398046511104)) then
       next (bW++[oZ])
      else none)) (fun(bW:(List ByteArray))=>
    dF bW) gm 0 bW:=by
 exact fK (f:=fun n bW i=>qf N gm (List.length gm:Int) n dF bW i) (l:=gm) (fun n i bW h=>by
  simp only[qf,D3]
  rw[decide_eq_true (show(i:Int)<(List.length gm:Int) by omega)]
  simp only[cond_true,aM h,Int.toNat_natCast,au _ i h]) (fun n bW=>by
  simp only[qf,D3]
  rw[decide_eq_false (by omega)]
  simp only[cond_false]) hl gm 0 n bW rfl (by omega) hn
end Go.Pv.R
