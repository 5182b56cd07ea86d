/- What the functions compute, as plain functions. -/
import Derived.Test.YtcpakhaogbempaaGreatPv4
namespace Go.Pv.R
set_option linter.unusedVariables false
set_option linter.unusedSimpArgs false
abbrev bS:Ty:=(.pair (.int .i64) (.pair (.int .i64) (.sl (.int .i64))))
abbrev QJ:Type:=(Int×(Int×(List Int)))
def b9:QJ:=((0:Int),((0:Int),([]:(List Int))))
abbrev bj:Ty:=(.pair (.int .i64) (.pair (.int .i64) (.pair (.int .i64) (.pair (.int .i64) (.pair (.int .i64) (.sl (.int .i64)))))))
abbrev QT:Type:=(Int×(Int×(Int×(Int×(Int×(List Int))))))
def au:QT:=((0:Int),((0:Int),((0:Int),((0:Int),((0:Int),([]:(List Int)))))))
abbrev aM:Ty:=(.pair (.int .i64) (.int .i64))
abbrev a7:Type:=(Int×Int)
def cA:a7:=((0:Int),(0:Int))
abbrev de:Ty:=(.pair (.int .i64) (.pair (.int .i64) (.int .i64)))
abbrev QB:Type:=(Int×(Int×Int))
def fp:QB:=((0:Int),((0:Int),(0:Int)))
abbrev df:Ty:=(.pair (.int .i64) (.pair (.int .i64) (.pair (.int .i64) (.int .i64))))
abbrev QL:Type:=(Int×(Int×(Int×Int)))
def tJ:QL:=((0:Int),((0:Int),((0:Int),(0:Int))))
abbrev Wo:Ty:=(.pair (.sl (.int .u8)) (.pair (.int .i64) (.int .i64)))
abbrev uH:Type:=((List Int)×(Int×Int))
abbrev bY:Ty:=(.pair (.sl bj) (.pair (.sl bS) (.pair (.sl aM) (.pair (.sl (.int .i64)) (.pair (.sl de) (.pair (.sl df) (.int .i64)))))))
abbrev QC:Type:=((List QT)×((List QJ)×((List a7)×((List Int)×((List QB)×((List QL)×Int))))))
noncomputable def aQ:ByteArray:=⟨#[0,1,2,2,3,3,3,3,4,4,4,4,4,4,4,4,5,5,5,5,5,5,5,5,5,5,5,5,5,5,5,5,6,6,6,6,6,6,6,6,6,6,6,6,6,6,6,6,6,6,6,6,6,6,6,6,6,6,6,6,6,6,6,6,7,7,7,7,7,7,7,7,7,7,7,7,7,7,7,7,7,7,7,7,7,7,7,7,7,7,7,7,7,7,7,7,7,7,7,7,7,7,7,7,7,7,7,7,7,7,7,7,7,7,7,7,7,7,7,7,7,7,7,7,7,7,7,7,8,8,8,8,8,8,8,8,8,8,8,8,8,8,8,8,8,8,8,8,8,8,8,8,8,8,8,8,8,8,8,8,8,8,8,8,8,8,8,8,8,8,8,8,8,8,8,8,8,8,8,8,8,8,8,8,8,8,8,8,8,8,8,8,8,8,8,8,8,8,8,8,8,8,8,8,8,8,8,8,8,8,8,8,8,8,8,8,8,8,8,8,8,8,8,8,8,8,8,8,8,8,8,8,8,8,8,8,8,8,8,8,8,8,8,8,8,8,8,8,8,8,8,8,8,8,8,8]⟩
noncomputable def iA (N:Nat) (a0:uH) (kf:Int→uH→Option aa):Option aa:=
 share (IntKind.wrap .i64 ((IntKind.wrap .i64 (a0.2.2*(6364136223846793005:Int)))+(1442695040888963407:Int))) (fun ZO=>
  bif (decide (0≤(33:Int))) then
   bif (decide (0≤(47:Int))) then
    bif (decide (a0.2.1<(List.length a0.1:Int))) then
     bif (aN a0.2.1 (List.length a0.1)) then
      kf (IntKind.wrap .i64 (BitVec.toNat (BitVec.ofInt (IntKind.bits .i64) (IntKind.wrap .i64 ((IntKind.wrap .i64 (BitVec.toNat (BitVec.ofInt (IntKind.bits .i64) (IntKind.wrap .i64 (BitVec.toNat (BitVec.ofInt (IntKind.bits .i64) (Int.fdiv ZO (2^(min (Int.toNat (33:Int)) (IntKind.bits .i64))))^^^BitVec.ofInt (IntKind.bits .i64) (Int.fdiv ZO (2^(min (Int.toNat (47:Int)) (IntKind.bits .i64)))))))&&&BitVec.ofInt (IntKind.bits .i64) (255:Int))))+(IntKind.wrap .i64 (List.getD a0.1 (Int.toNat a0.2.1) (0:Int)))))&&&BitVec.ofInt (IntKind.bits .i64) (255:Int)))) (a0.1,((IntKind.wrap .i64 (a0.2.1+(1:Int))),ZO))
     else none
    else
     kf (IntKind.wrap .i64 (BitVec.toNat (BitVec.ofInt (IntKind.bits .i64) (IntKind.wrap .i64 (BitVec.toNat (BitVec.ofInt (IntKind.bits .i64) (Int.fdiv ZO (2^(min (Int.toNat (33:Int)) (IntKind.bits .i64))))^^^BitVec.ofInt (IntKind.bits .i64) (Int.fdiv ZO (2^(min (Int.toNat (47:Int)) (IntKind.bits .i64)))))))&&&BitVec.ofInt (IntKind.bits .i64) (255:Int)))) (a0.1,(a0.2.1,ZO))
   else none
  else none)
noncomputable def lg (N:Nat) (a0:uH) (a1:Int) (kf:Int→uH→Option aa):Option aa:=
 bif (decide (a1≤(0:Int))) then
  kf (0:Int) a0
 else
  bif (decide (a1≤(256:Int))) then
   iA N a0 (fun ee atG=>
    bif (!decide (a1=0)) then
     kf (Int.tmod ee a1) atG
    else none)
  else
   iA N a0 (fun ax3 azH=>
    iA N azH (fun adD azI=>
     iA N azI (fun M' atH=>
      bif (!decide (a1=0)) then
       kf (Int.tmod (IntKind.wrap .i64 ((IntKind.wrap .i64 ((IntKind.wrap .i64 (ax3*(65536:Int)))+(IntKind.wrap .i64 (adD*(256:Int)))))+M')) a1) atH
      else none)))
noncomputable def Cr (N:Nat) (a0:uH) (a1:Int) (kf:Bool→uH→Option aa):Option aa:=
 lg N a0 a1 (fun EJ atG=>
  kf (EJ==(0:Int)) atG)
noncomputable def ID (N:Nat) (a0:(List Int)) (kf:(List Int)→Option aa):Option aa:=
 bif (List.isEmpty a0) then
  both (kf ([]:(List Int))) (
   bif (decide ((List.length ([]:(List Int))+List.length a0)*1≤4398046511104)) then
    kf (([]:(List Int))++a0)
   else none)
 else
  bif (decide ((List.length ([]:(List Int))+List.length a0)*1≤4398046511104)) then
   kf (([]:(List Int))++a0)
  else none
noncomputable def o8 (N:Nat) (eC:(List QT)) (nz:Int):Nat→((List QT)→Option aa)→(List QT)→Int→Option aa
 |0,_,_,_=>none
 |mD+1,bI,bF,jL=>
  bif (decide (jL<nz)) then
   bif (aN jL (List.length eC)) then
    ID N (List.getD eC (Int.toNat jL) au).2.2.2.2.2 (fun rq=>
     bif (decide ((List.length bF+List.length [((List.getD eC (Int.toNat jL) au).1,((List.getD eC (Int.toNat jL) au).2.1,((List.getD eC (Int.toNat jL) au).2.2.1,((List.getD eC (Int.toNat jL) au).2.2.2.1,((List.getD eC (Int.toNat jL) au).2.2.2.2.1,rq)))))])*6≤4398046511104)) then
      (o8 N eC nz mD bI) (bF++[((List.getD eC (Int.toNat jL) au).1,((List.getD eC (Int.toNat jL) au).2.1,((List.getD eC (Int.toNat jL) au).2.2.1,((List.getD eC (Int.toNat jL) au).2.2.2.1,((List.getD eC (Int.toNat jL) au).2.2.2.2.1,rq)))))]) (IntKind.wrap .i64 (jL+(1:Int)))
     else none)
   else none
  else
   bI bF
noncomputable def RZ (N:Nat) (a0:(List QT)) (kf:(List QT)→Option aa):Option aa:=
 o8 N a0 (List.length a0:Int) N kf ([]:(List QT)) (0:Int)
noncomputable def o9 (N:Nat) (eC:(List QJ)) (nz:Int):Nat→((List QJ)→Option aa)→(List QJ)→Int→Option aa
 |0,_,_,_=>none
 |mD+1,bI,bF,jL=>
  bif (decide (jL<nz)) then
   bif (aN jL (List.length eC)) then
    ID N (List.getD eC (Int.toNat jL) b9).2.2 (fun rq=>
     bif (decide ((List.length bF+List.length [((List.getD eC (Int.toNat jL) b9).1,((List.getD eC (Int.toNat jL) b9).2.1,rq))])*3≤4398046511104)) then
      (o9 N eC nz mD bI) (bF++[((List.getD eC (Int.toNat jL) b9).1,((List.getD eC (Int.toNat jL) b9).2.1,rq))]) (IntKind.wrap .i64 (jL+(1:Int)))
     else none)
   else none
  else
   bI bF
noncomputable def ajC (N:Nat) (a0:(List QJ)) (kf:(List QJ)→Option aa):Option aa:=
 o9 N a0 (List.length a0:Int) N kf ([]:(List QJ)) (0:Int)
noncomputable def ajD (N:Nat) (a0:(List a7)) (kf:(List a7)→Option aa):Option aa:=
 bif (List.isEmpty a0) then
  both (kf ([]:(List a7))) (
   bif (decide ((List.length ([]:(List a7))+List.length a0)*2≤4398046511104)) then
    kf (([]:(List a7))++a0)
   else none)
 else
  bif (decide ((List.length ([]:(List a7))+List.length a0)*2≤4398046511104)) then
   kf (([]:(List a7))++a0)
  else none
noncomputable def ajE (N:Nat) (a0:(List QB)) (kf:(List QB)→Option aa):Option aa:=
 bif (List.isEmpty a0) then
  both (kf ([]:(List QB))) (
   bif (decide ((List.length ([]:(List QB))+List.length a0)*3≤4398046511104)) then
    kf (([]:(List QB))++a0)
   else none)
 else
  bif (decide ((List.length ([]:(List QB))+List.length a0)*3≤4398046511104)) then
   kf (([]:(List QB))++a0)
  else none
noncomputable def ZP (N:Nat) (a0:(List QL)) (kf:(List QL)→Option aa):Option aa:=
 bif (List.isEmpty a0) then
  both (kf ([]:(List QL))) (
   bif (decide ((List.length ([]:(List QL))+List.length a0)*4≤4398046511104)) then
    kf (([]:(List QL))++a0)
   else none)
 else
  bif (decide ((List.length ([]:(List QL))+List.length a0)*4≤4398046511104)) then
   kf (([]:(List QL))++a0)
  else none
noncomputable def IE (N:Nat) (a0:QC) (kf:QC→Option aa):Option aa:=
 RZ N a0.1 (fun EK=>
  ajC N a0.2.1 (fun atI=>
   ajD N a0.2.2.1 (fun ax4=>
    ID N a0.2.2.2.1 (fun Na=>
     ajE N a0.2.2.2.2.1 (fun adD=>
      ZP N a0.2.2.2.2.2.1 (fun ax5=>
       kf (EK,(atI,(ax4,(Na,(adD,(ax5,a0.2.2.2.2.2.2))))))))))))
noncomputable def ajF (N:Nat) (a0:QT) (a1:Int) (kf:Bool→Option aa):Option aa:=
 kf (a0.1==a1)
noncomputable def pc (N:Nat) (ab:(List QT)) (aj:Int) (rr:Int):Nat→(Option aa)→(Int→Option aa)→Int→Option aa
 |0,_,_,_=>none
 |mD+1,dF,eP,fg=>
  bif (decide (fg<rr)) then
   bif (aN fg (List.length ab)) then
    ajF N (List.getD ab (Int.toNat fg) au) aj (fun l8=>
     bif l8 then
      eP fg
     else
      (pc N ab aj rr mD dF eP) (IntKind.wrap .i64 (fg+(1:Int))))
   else none
  else
   dF
noncomputable def atJ (N:Nat) (a0:(List QT)) (adE:Int) (kf:Int→Option aa):Option aa:=
 pc N a0 adE (List.length a0:Int) N (kf (-1:Int)) kf (0:Int)
noncomputable def Nb (N:Nat) (a0:(List QT)) (a1:Int) (kf:Int→Option aa):Option aa:=
 atJ N a0 a1 kf
noncomputable def I16 (N:Nat) (a0:QC) (kf:Bool→Option aa):Option aa:=
 kf (decide ((List.length a0.2.2.1:Int)>(0:Int)))
noncomputable def ajG (N:Nat) (a0:(List QT)) (a1:Int) (a2:(List QT)) (kf:(List QT)→Option aa):Option aa:=
 bif (decide ((0:Int)≤a1)&&(decide (a1≤(List.length a0:Int))&&(Nat.blt 0 (List.length a2)&&Nat.ble ((List.length a0+List.length a2)*Ty.size bj) 4398046511104))) then
  kf (List.take (Int.toNat a1) a0++a2++List.drop (Int.toNat a1) a0)
 else none
noncomputable def atK (N:Nat) (a0:(List QL)) (kf:Int→Option aa):Option aa:=
 bif ((List.length a0:Int)==(0:Int)) then
  kf (0:Int)
 else
  bif (aN (IntKind.wrap .i64 ((List.length a0:Int) - (1:Int))) (List.length a0)) then
   kf (List.getD a0 (Int.toNat (IntKind.wrap .i64 ((List.length a0:Int) - (1:Int)))) tJ).2.2.2
  else none
noncomputable def eD (N:Nat) (a0:Int) (a1:Int) (a2:Int) (kf:Bool→Option aa):Option aa:=
 bif (decide (a1≤a0)) then
  kf (decide (a0≤a2))
 else
  kf false
noncomputable def ajH (N:Nat) (a0:Int) (a1:Int) (kf:Int→Option aa):Option aa:=
 eD N a1 (1:Int) (1000000000000:Int) (fun EJ=>
  bif (!EJ) then
   kf (0:Int)
  else
   bif (!decide (a1=0)) then
    bif (decide ((Int.tmod a0 a1)<(0:Int))) then
     kf (IntKind.wrap .i64 ((Int.tmod a0 a1)+a1))
    else
     kf (Int.tmod a0 a1)
   else none)
noncomputable def ajI (N:Nat) (a0:Int) (a1:Int) (kf:Int→Option aa):Option aa:=
 ajH N a1 (2147483647:Int) (fun ru=>
  kf (Int.tmod (IntKind.wrap .i64 ((IntKind.wrap .i64 ((IntKind.wrap .i64 (a0*(1000003:Int)))+ru))+(13:Int))) (2147483647:Int)))
noncomputable def pd (N:Nat) (iC:(List Int)) (rr:Int):Nat→(Int→Option aa)→Int→Int→Option aa
 |0,_,_,_=>none
 |mD+1,bI,bF,fg=>
  bif (decide (fg<rr)) then
   bif (aN fg (List.length iC)) then
    ajI N bF (List.getD iC (Int.toNat fg) (0:Int)) (fun adF=>
     (pd N iC rr mD bI) adF (IntKind.wrap .i64 (fg+(1:Int))))
   else none
  else
   bI bF
noncomputable def ajJ (N:Nat) (a0:(List Int)) (kf:Int→Option aa):Option aa:=
 pd N a0 (List.length a0:Int) N kf (11:Int) (0:Int)
noncomputable def R0 (N:Nat) (a0:Int) (a1:QL) (kf:Int→Option aa):Option aa:=
 ajJ N [a0,a1.1,a1.2.1,a1.2.2.1] kf
noncomputable def uI (N:Nat) (pf:(List QL)) (ko:Int):Nat→(Option aa)→(Bool→Option aa)→Int→Int→Option aa
 |0,_,_,_,_=>none
 |mD+1,ig,gW,bF,n5=>
  bif (decide (n5<ko)) then
   bif (aN n5 (List.length pf)) then
    bif ((List.getD pf (Int.toNat n5) tJ).1 != (IntKind.wrap .i64 (n5+(1:Int)))) then
     gW false
    else
     eD N (List.getD pf (Int.toNat n5) tJ).2.1 (1:Int) (9:Int) (fun xk=>
      bif (!xk) then
       gW false
      else
       eD N (List.getD pf (Int.toNat n5) tJ).2.2.1 (0:Int) (99:Int) (fun Nc=>
        bif (!Nc) then
         gW false
        else
         R0 N bF (List.getD pf (Int.toNat n5) tJ) (fun Nd=>
          bif ((List.getD pf (Int.toNat n5) tJ).2.2.2 != Nd) then
           gW false
          else
           (uI N pf ko mD ig gW) (List.getD pf (Int.toNat n5) tJ).2.2.2 (IntKind.wrap .i64 (n5+(1:Int))))))
   else none
  else
   ig
noncomputable def I75 (N:Nat) (a0:(List QL)) (kf:Bool→Option aa):Option aa:=
 bif (decide ((List.length a0:Int)>(200:Int))) then
  kf false
 else
  uI N a0 (List.length a0:Int) N (kf true) kf (0:Int) (0:Int)
noncomputable def ajK (N:Nat) (a0:(List QL)) (a1:Int) (a2:Int) (kf:(List QL)→Bool→Option aa):Option aa:=
 atK N a0 (fun adG=>
  R0 N adG ((IntKind.wrap .i64 ((List.length a0:Int)+(1:Int))),(a1,(a2,(0:Int)))) (fun xl=>
   ZP N a0 (fun adH=>
    bif (decide ((List.length adH+List.length [((IntKind.wrap .i64 ((List.length a0:Int)+(1:Int))),(a1,(a2,xl)))])*4≤4398046511104)) then
     I75 N (adH++[((IntKind.wrap .i64 ((List.length a0:Int)+(1:Int))),(a1,(a2,xl)))]) (fun adI=>
      bif (!adI) then
       ZP N a0 (fun ax6=>
        kf ax6 false)
      else
       kf (adH++[((IntKind.wrap .i64 ((List.length a0:Int)+(1:Int))),(a1,(a2,xl)))]) true)
    else none)))
noncomputable def rv (lh:Int) (nz:(List Int)) (jL:Int):Nat→(Int→Option aa)→Int→Int→Option aa
 |0,_,_,_=>none
 |Wp+1,cS,fU,gq=>
  bif (decide (gq<jL)) then
   bif (aN gq (List.length nz)) then
    bif ((List.getD nz (Int.toNat gq) (0:Int))==lh) then
     (rv lh nz jL Wp cS) (IntKind.wrap .i64 (fU+(1:Int))) (IntKind.wrap .i64 (gq+(1:Int)))
    else
     (rv lh nz jL Wp cS) fU (IntKind.wrap .i64 (gq+(1:Int)))
   else none
  else
   cS fU
noncomputable def I78 (N:Nat) (a0:(List Int)) (a1:Int) (kf:Int→Option aa):Option aa:=
 rv a1 a0 (List.length a0:Int) N kf (0:Int) (0:Int)
noncomputable def gL (N:Nat) (tK:(List QT)) (tL:QT) (IF:(List QT)) (IG:Int) (IH:Int) (gD:(List Int)) (adJ:Int):Nat→(Option aa)→(Bool→Option aa)→Int→Option aa
 |0,_,_,_=>none
 |azJ+1,n6,gM,Ar=>
  bif (decide (Ar<adJ)) then
   bif (aN Ar (List.length gD)) then
    Nb N tK (List.getD gD (Int.toNat Ar) (0:Int)) (fun uJ=>
     bif (decide (uJ<(0:Int))) then
      gM false
     else
      bif ((List.getD gD (Int.toNat Ar) (0:Int))==tL.1) then
       gM false
      else
       bif (aN uJ (List.length tK)) then
        I78 N tL.2.2.2.2.2 (List.getD gD (Int.toNat Ar) (0:Int)) (fun R1=>
         I78 N (List.getD tK (Int.toNat uJ) au).2.2.2.2.2 tL.1 (fun II=>
          bif (R1 != II) then
           gM false
          else
           (gL N tK tL IF IG IH gD adJ azJ n6 gM) (IntKind.wrap .i64 (Ar+(1:Int)))))
       else none)
   else none
  else
   n6
noncomputable def Dg (N:Nat) (bH:Bool→Option aa) (atL:Int→Option aa) (ab:(List QT)) (cG:(List QT)) (EL:Int) (ef:Int):Option aa:=
 gL N ab (List.getD cG (Int.toNat ef) au) cG EL ef (List.getD cG (Int.toNat ef) au).2.2.2.2.2 (List.length (List.getD cG (Int.toNat ef) au).2.2.2.2.2:Int) N (atL (IntKind.wrap .i64 (ef+(1:Int)))) bH (0:Int)
noncomputable def mQ (N:Nat) (ab:(List QT)) (cG:(List QT)) (EL:Int):Nat→(Option aa)→(Bool→Option aa)→Int→Option aa
 |0,_,_,_=>none
 |mD+1,pg,bH,ef=>
  bif (decide (ef<EL)) then
   bif (aN ef (List.length cG)) then
    eD N (List.getD cG (Int.toNat ef) au).1 (1:Int) (99:Int) (fun xk=>
     bif (!xk) then
      bH false
     else
      bif (decide (ef>(0:Int))) then
       bif (aN (IntKind.wrap .i64 (ef - (1:Int))) (List.length ab)) then
        bif (decide ((List.getD cG (Int.toNat ef) au).1≤(List.getD ab (Int.toNat (IntKind.wrap .i64 (ef - (1:Int)))) au).1)) then
         bH false
        else
         eD N (List.getD cG (Int.toNat ef) au).2.1 (1:Int) (99:Int) (fun adK=>
          bif (!adK) then
           bH false
          else
           bif (decide ((List.length (List.getD cG (Int.toNat ef) au).2.2.2.2.2:Int)>(20:Int))) then
            bH false
           else
            eD N (List.getD cG (Int.toNat ef) au).2.2.1 (0:Int) (List.length (List.getD cG (Int.toNat ef) au).2.2.2.2.2:Int) (fun Hy=>
             bif (!Hy) then
              bH false
             else
              eD N (List.getD cG (Int.toNat ef) au).2.2.2.2.1 (0:Int) (List.length (List.getD cG (Int.toNat ef) au).2.2.2.2.2:Int) (fun adL=>
               bif (!adL) then
                bH false
               else
                eD N (List.getD cG (Int.toNat ef) au).2.2.2.1 (0:Int) (100000:Int) (fun R2=>
                 bif (!R2) then
                  bH false
                 else
                  Dg N bH (mQ N ab cG EL mD pg bH) ab cG EL ef))))
       else none
      else
       eD N (List.getD cG (Int.toNat ef) au).2.1 (1:Int) (99:Int) (fun R3=>
        bif (!R3) then
         bH false
        else
         bif (decide ((List.length (List.getD cG (Int.toNat ef) au).2.2.2.2.2:Int)>(20:Int))) then
          bH false
         else
          eD N (List.getD cG (Int.toNat ef) au).2.2.1 (0:Int) (List.length (List.getD cG (Int.toNat ef) au).2.2.2.2.2:Int) (fun R4=>
           bif (!R4) then
            bH false
           else
            eD N (List.getD cG (Int.toNat ef) au).2.2.2.2.1 (0:Int) (List.length (List.getD cG (Int.toNat ef) au).2.2.2.2.2:Int) (fun ph=>
             bif (!ph) then
              bH false
             else
              eD N (List.getD cG (Int.toNat ef) au).2.2.2.1 (0:Int) (100000:Int) (fun R5=>
               bif (!R5) then
                bH false
               else
                Dg N bH (mQ N ab cG EL mD pg bH) ab cG EL ef)))))
   else none
  else
   pg
noncomputable def As (N:Nat) (a0:(List QT)) (kf:Bool→Option aa):Option aa:=
 bif (decide ((List.length a0:Int)>(10:Int))) then
  kf false
 else
  mQ N a0 a0 (List.length a0:Int) N (kf true) kf (0:Int)
noncomputable def l9 (N:Nat) (Nf:(List QJ)) (eQ:QJ) (EM:(List QJ)) (EN:Int) (EO:Int) (gE:(List Int)) (R6:Int):Nat→(Option aa)→(Bool→Option aa)→Int→Option aa
 |0,_,_,_=>none
 |ax7+1,pj,ll,pk=>
  bif (decide (pk<R6)) then
   bif (aN pk (List.length gE)) then
    eD N (List.getD gE (Int.toNat pk) (0:Int)) (1:Int) (99:Int) (fun R7=>
     bif (!R7) then
      ll false
     else
      bif (decide (pk>(0:Int))) then
       bif (aN (IntKind.wrap .i64 (pk - (1:Int))) (List.length eQ.2.2)) then
        bif (decide ((List.getD gE (Int.toNat pk) (0:Int))≤(List.getD eQ.2.2 (Int.toNat (IntKind.wrap .i64 (pk - (1:Int)))) (0:Int)))) then
         ll false
        else
         (l9 N Nf eQ EM EN EO gE R6 ax7 pj ll) (IntKind.wrap .i64 (pk+(1:Int)))
       else none
      else
       (l9 N Nf eQ EM EN EO gE R6 ax7 pj ll) (IntKind.wrap .i64 (pk+(1:Int))))
   else none
  else
   pj
noncomputable def IJ (N:Nat) (dv:Bool→Option aa) (atM:Int→Option aa) (ab:(List QJ)) (eh:(List QJ)) (eR:Int) (bP:Int):Option aa:=
 l9 N ab (List.getD eh (Int.toNat bP) b9) eh eR bP (List.getD eh (Int.toNat bP) b9).2.2 (List.length (List.getD eh (Int.toNat bP) b9).2.2:Int) N (atM (IntKind.wrap .i64 (bP+(1:Int)))) dv (0:Int)
noncomputable def ry (N:Nat) (ab:(List QJ)) (eh:(List QJ)) (eR:Int):Nat→(Option aa)→(Bool→Option aa)→Int→Option aa
 |0,_,_,_=>none
 |mD+1,pn,dv,bP=>
  bif (decide (bP<eR)) then
   bif (aN bP (List.length eh)) then
    eD N (List.getD eh (Int.toNat bP) b9).1 (1:Int) (99:Int) (fun adM=>
     bif (!adM) then
      dv false
     else
      bif (decide (bP>(0:Int))) then
       bif (aN (IntKind.wrap .i64 (bP - (1:Int))) (List.length ab)) then
        bif (decide ((List.getD eh (Int.toNat bP) b9).1≤(List.getD ab (Int.toNat (IntKind.wrap .i64 (bP - (1:Int)))) b9).1)) then
         dv false
        else
         eD N (List.getD eh (Int.toNat bP) b9).2.1 (1:Int) (99:Int) (fun adN=>
          bif (!adN) then
           dv false
          else
           IJ N dv (ry N ab eh eR mD pn dv) ab eh eR bP)
       else none
      else
       eD N (List.getD eh (Int.toNat bP) b9).2.1 (1:Int) (99:Int) (fun rz=>
        bif (!rz) then
         dv false
        else
         IJ N dv (ry N ab eh eR mD pn dv) ab eh eR bP))
   else none
  else
   pn
noncomputable def I79 (N:Nat) (a0:(List QJ)) (kf:Bool→Option aa):Option aa:=
 bif (decide ((List.length a0:Int)>(10:Int))) then
  kf false
 else
  ry N a0 a0 (List.length a0:Int) N (kf true) kf (0:Int)
noncomputable def po (ab:(List Int)) (aj:Int) (rr:Int):Nat→(Option aa)→(Int→Option aa)→Int→Option aa
 |0,_,_,_=>none
 |mD+1,kM,fh,fg=>
  bif (decide (fg<rr)) then
   bif (aN fg (List.length ab)) then
    bif (aj==(List.getD ab (Int.toNat fg) (0:Int))) then
     fh fg
    else
     (po ab aj rr mD kM fh) (IntKind.wrap .i64 (fg+(1:Int)))
   else none
  else
   kM
noncomputable def R8 (N:Nat) (a0:(List Int)) (a1:Int) (kf:Int→Option aa):Option aa:=
 po a0 a1 (List.length a0:Int) N (kf (-1:Int)) kf (0:Int)
noncomputable def S82 (N:Nat) (a0:(List Int)) (a1:Int) (kf:Bool→Option aa):Option aa:=
 R8 N a0 a1 (fun EJ=>
  kf (decide (EJ≥(0:Int))))
noncomputable def I19 (N:Nat) (a0:(List QT)) (a1:Int) (a2:Int) (kf:Bool→Option aa):Option aa:=
 Nb N a0 a1 (fun dG=>
  bif (decide (dG≥(0:Int))) then
   bif (aN dG (List.length a0)) then
    S82 N (List.getD a0 (Int.toNat dG) au).2.2.2.2.2 a2 kf
   else none
  else
   kf false)
noncomputable def I77 (N:Nat) (a0:(List QT)) (a1:Int) (a2:Int) (kf:Bool→Option aa):Option aa:=
 Nb N a0 a1 (fun cH=>
  Nb N a0 a2 (fun cj=>
   As N a0 (fun qu=>
    bif qu then
     bif (decide (cH≥(0:Int))) then
      bif (decide (cj≥(0:Int))) then
       bif (cH != cj) then
        bif (aN cH (List.length a0)) then
         bif (aN cj (List.length a0)) then
          bif ((List.getD a0 (Int.toNat cH) au).2.1 != (List.getD a0 (Int.toNat cj) au).2.1) then
           I19 N a0 a1 a2 (fun adO=>
            kf (!adO))
          else
           kf false
         else none
        else none
       else
        kf false
      else
       kf false
     else
      kf false
    else
     kf false)))
noncomputable def pq (N:Nat) (Hz:(List Int)) (iV:(List QT)) (adP:Int):Nat→(Option aa)→(Bool→Option aa)→Int→Option aa
 |0,_,_,_=>none
 |azK+1,n7,n9,IK=>
  bif (decide (IK<adP)) then
   bif (aN IK (List.length iV)) then
    I78 N Hz (List.getD iV (Int.toNat IK) au).1 (fun R9=>
     bif (R9 != (1:Int)) then
      n9 false
     else
      (pq N Hz iV adP azK n7 n9) (IntKind.wrap .i64 (IK+(1:Int))))
   else none
  else
   n7
noncomputable def uK (N:Nat) (ab:(List QT)) (eR:(List a7)) (bP:Int):Nat→((List Int)→Option aa)→(Bool→Option aa)→(List Int)→Int→Option aa
 |0,_,_,_,_=>none
 |Wp+1,cS,fi,fU,jy=>
  bif (decide (jy<bP)) then
   bif (aN jy (List.length eR)) then
    I77 N ab (List.getD eR (Int.toNat jy) cA).1 (List.getD eR (Int.toNat jy) cA).2 (fun kr=>
     bif (!kr) then
      fi false
     else
      bif (decide ((List.length fU+List.length [(List.getD eR (Int.toNat jy) cA).1,(List.getD eR (Int.toNat jy) cA).2])*1≤4398046511104)) then
       (uK N ab eR bP Wp cS fi) (fU++[(List.getD eR (Int.toNat jy) cA).1,(List.getD eR (Int.toNat jy) cA).2]) (IntKind.wrap .i64 (jy+(1:Int)))
      else none)
   else none
  else
   cS fU
noncomputable def I17 (N:Nat) (a0:(List QT)) (a1:(List a7)) (kf:Bool→Option aa):Option aa:=
 uK N a0 a1 (List.length a1:Int) N (fun ax8=>
  pq N ax8 a0 (List.length a0:Int) N (kf true) kf (0:Int)) kf ([]:(List Int)) (0:Int)
noncomputable def I81 (N:Nat) (a0:QJ) (a1:Int) (kf:Bool→Option aa):Option aa:=
 kf (a0.1==a1)
noncomputable def uL (N:Nat) (ab:(List QJ)) (aj:Int) (rr:Int):Nat→(Option aa)→(Int→Option aa)→Int→Option aa
 |0,_,_,_=>none
 |mD+1,dF,eP,fg=>
  bif (decide (fg<rr)) then
   bif (aN fg (List.length ab)) then
    I81 N (List.getD ab (Int.toNat fg) b9) aj (fun l8=>
     bif l8 then
      eP fg
     else
      (uL N ab aj rr mD dF eP) (IntKind.wrap .i64 (fg+(1:Int))))
   else none
  else
   dF
noncomputable def S80 (N:Nat) (a0:(List QJ)) (adE:Int) (kf:Int→Option aa):Option aa:=
 uL N a0 adE (List.length a0:Int) N (kf (-1:Int)) kf (0:Int)
noncomputable def uM (N:Nat) (ab:(List QT)) (Ng:QJ) (mf:(List Int)) (arT:Int):Nat→(Option aa)→(Bool→Option aa)→Int→Option aa
 |0,_,_,_=>none
 |Wp+1,iW,jX,gN=>
  bif (decide (gN<arT)) then
   bif (aN gN (List.length mf)) then
    Nb N ab (List.getD mf (Int.toNat gN) (0:Int)) (fun kr=>
     bif (decide (kr<(0:Int))) then
      jX false
     else
      bif (aN kr (List.length ab)) then
       bif ((List.getD ab (Int.toNat kr) au).2.1==Ng.2.1) then
        jX false
       else
        S82 N Ng.2.2 (List.getD mf (Int.toNat gN) (0:Int)) (fun rz=>
         bif rz then
          jX false
         else
          (uM N ab Ng mf arT Wp iW jX) (IntKind.wrap .i64 (gN+(1:Int))))
      else none)
   else none
  else
   iW
noncomputable def I83 (N:Nat) (a0:(List QT)) (a1:QJ) (a2:a7) (kf:Bool→Option aa):Option aa:=
 uM N a0 a1 [a2.1,a2.2] (List.length [a2.1,a2.2]:Int) N (kf true) kf (0:Int)
noncomputable def uN (N:Nat) (Au:(List QT)) (ju:(List QJ)) (jM:(List a7)) (iD:(List Int)) (mg:(List Int)) (arU:Int):Nat→(Option aa)→(Bool→Option aa)→Int→Option aa
 |0,_,_,_=>none
 |n_9+1,sB,jY,tM=>
  bif (decide (tM<arU)) then
   bif (aN tM (List.length mg)) then
    S80 N ju (List.getD mg (Int.toNat tM) (0:Int)) (fun uO=>
     bif (decide (uO<(0:Int))) then
      jY false
     else
      bif (decide ((0:Int)≤(0:Int))&&decide ((0:Int)≤tM)&&decide (tM≤(List.length iD:Int))) then
       S82 N (List.drop (Int.toNat (0:Int)) (List.take (Int.toNat tM) iD)) (List.getD mg (Int.toNat tM) (0:Int)) (fun Sa=>
        bif Sa then
         jY false
        else
         bif (aN uO (List.length ju)) then
          bif (aN tM (List.length jM)) then
           I83 N Au (List.getD ju (Int.toNat uO) b9) (List.getD jM (Int.toNat tM) cA) (fun Sb=>
            bif (!Sb) then
             jY false
            else
             (uN N Au ju jM iD mg arU n_9 sB jY) (IntKind.wrap .i64 (tM+(1:Int))))
          else none
         else none)
      else none)
   else none
  else
   sB
noncomputable def I18 (N:Nat) (a0:(List QT)) (a1:(List QJ)) (a2:(List a7)) (a3:(List Int)) (kf:Bool→Option aa):Option aa:=
 I79 N a1 (fun ee=>
  bif (!ee) then
   kf false
  else
   bif ((List.length a3:Int) != (List.length a2:Int)) then
    kf false
   else
    uN N a0 a1 a2 a3 a3 (List.length a3:Int) N (kf true) kf (0:Int))
noncomputable def Nh (N:Nat) (a0:QB) (kf:Bool→Option aa):Option aa:=
 eD N a0.1 (1:Int) (99:Int) (fun EK=>
  bif EK then
   eD N a0.2.1 (0:Int) (100:Int) (fun atN=>
    bif atN then
     eD N a0.2.2 (0:Int) (100:Int) (fun EP=>
      bif EP then
       kf (a0.2.1 != a0.2.2)
      else
       kf false)
    else
     kf false)
  else
   kf false)
noncomputable def pr (ko:(List QT)) (n5:Int):Nat→(Int→Option aa)→Int→Int→Option aa
 |0,_,_,_=>none
 |Wp+1,Aw,ao,Wq=>
  bif (decide (Wq<n5)) then
   bif (aN Wq (List.length ko)) then
    (pr ko n5 Wp Aw) (IntKind.wrap .i64 (ao+(List.getD ko (Int.toNat Wq) au).2.2.1)) (IntKind.wrap .i64 (Wq+(1:Int)))
   else none
  else
   Aw ao
noncomputable def ajL (N:Nat) (a0:(List QT)) (kf:Int→Option aa):Option aa:=
 As N a0 (fun EJ=>
  bif (!EJ) then
   kf (0:Int)
  else
   pr a0 (List.length a0:Int) N kf (0:Int) (0:Int))
noncomputable def rA (N:Nat) (ij:QC) (iX:(List QB)) (adQ:Int):Nat→(Option aa)→(Bool→Option aa)→Int→Option aa
 |0,_,_,_=>none
 |Sc+1,pv,ln,mh=>
  bif (decide (mh<adQ)) then
   bif (aN mh (List.length iX)) then
    bif (!((decide (((List.getD iX (Int.toNat mh) fp).1:Int)=(0:Int)))&&((decide (((List.getD iX (Int.toNat mh) fp).2.1:Int)=(0:Int)))&&(decide (((List.getD iX (Int.toNat mh) fp).2.2:Int)=(0:Int)))))) then
     Nh N (List.getD iX (Int.toNat mh) fp) (fun Sd=>
      bif (!Sd) then
       ln false
      else
       bif (aN mh (List.length ij.2.2.2.1)) then
        bif ((List.getD iX (Int.toNat mh) fp).1 != (List.getD ij.2.2.2.1 (Int.toNat mh) (0:Int))) then
         ln false
        else
         (rA N ij iX adQ Sc pv ln) (IntKind.wrap .i64 (mh+(1:Int)))
       else none)
    else
     (rA N ij iX adQ Sc pv ln) (IntKind.wrap .i64 (mh+(1:Int)))
   else none
  else
   pv
noncomputable def IL (N:Nat) (a0:QC) (kf:Bool→Option aa):Option aa:=
 rA N a0 a0.2.2.2.2.1 (List.length a0.2.2.2.2.1:Int) N (
  eD N a0.2.2.2.2.2.2 (0:Int) (1000:Int) (fun atO=>
   bif atO then
    ajL N a0.1 (fun uP=>
     kf (uP==a0.2.2.2.2.2.2))
   else
    kf false)) kf (0:Int)
noncomputable def I39 (N:Nat) (a0:QC) (kf:Bool→Option aa):Option aa:=
 As N a0.1 (fun EJ=>
  bif (!EJ) then
   kf false
  else
   I79 N a0.2.1 (fun Ni=>
    bif (!Ni) then
     kf false
    else
     I75 N a0.2.2.2.2.2.1 (fun ER=>
      bif (!ER) then
       kf false
      else
       bif ((List.length a0.2.2.2.1:Int) != (List.length a0.2.2.1:Int)) then
        kf false
       else
        bif ((List.length a0.2.2.2.2.1:Int) != (List.length a0.2.2.1:Int)) then
         kf false
        else
         I16 N a0 (fun ax9=>
          bif ax9 then
           I17 N a0.1 a0.2.2.1 (fun ax'=>
            bif (!ax') then
             kf false
            else
             I18 N a0.1 a0.2.1 a0.2.2.1 a0.2.2.2.1 (fun aya=>
              bif (!aya) then
               kf false
              else
               IL N a0 kf))
          else
           IL N a0 kf))))
noncomputable def IM (N:Nat) (a0:QC) (a1:QC) (a2:Int) (a3:Int) (kf:QC→Bool→Option aa):Option aa:=
 ajK N a1.2.2.2.2.2.1 a2 a3 (fun arV oa=>
  bif (!oa) then
   IE N a0 (fun Nj=>
    kf Nj false)
  else
   I39 N a0 (fun aE=>
    bif (!aE) then
     IE N a0 (fun Nj=>
      kf Nj false)
    else
     I39 N (a1.1,(a1.2.1,(a1.2.2.1,(a1.2.2.2.1,(a1.2.2.2.2.1,(arV,a1.2.2.2.2.2.2)))))) (fun ayb=>
      bif (!ayb) then
       IE N a0 (fun Nk=>
        kf Nk false)
      else
       kf (a1.1,(a1.2.1,(a1.2.2.1,(a1.2.2.2.1,(a1.2.2.2.2.1,(arV,a1.2.2.2.2.2.2)))))) true)))
noncomputable def rB (ZQ:Int) (ajM:Int) (ajN:QC) (ajO:QC) (xm:QC):Nat→(Int→Option aa)→Int→Option aa
 |0,_,_=>none
 |ZR+1,mR,ZS=>
  bif (decide (ZS<(List.length xm.1:Int))) then
   bif (aN ZS (List.length xm.1)) then
    bif (decide ((List.getD xm.1 (Int.toNat ZS) au).1<ZQ)) then
     (rB ZQ ajM ajN ajO xm ZR mR) (IntKind.wrap .i64 (ZS+(1:Int)))
    else
     mR ZS
   else none
  else
   mR ZS
noncomputable def I30 (N:Nat) (a0:QC) (a1:Int) (a2:Int) (kf:QC→Bool→Option aa):Option aa:=
 IE N a0 (fun cH=>
  Nb N a0.1 a1 (fun ES=>
   bif (decide (ES≥(0:Int))) then
    kf cH false
   else
    I16 N a0 (fun Nl=>
     bif Nl then
      kf cH false
     else
      rB a1 a2 a0 (([]:(List QT)),(([]:(List QJ)),(([]:(List a7)),(([]:(List Int)),(([]:(List QB)),(([]:(List QL)),(0:Int))))))) cH N (fun ayc=>
       ajG N cH.1 ayc [(a1,(a2,((0:Int),((0:Int),((0:Int),([]:(List Int)))))))] (fun atP=>
        IM N a0 (atP,cH.2) (1:Int) a1 kf)) (0:Int))))
noncomputable def ajP (N:Nat) (a0:QJ) (a1:Int) (kf:Bool→Option aa):Option aa:=
 kf (a0.1==a1)
noncomputable def pw (N:Nat) (ab:(List QJ)) (aj:Int) (rr:Int):Nat→(Option aa)→(Int→Option aa)→Int→Option aa
 |0,_,_,_=>none
 |mD+1,dF,eP,fg=>
  bif (decide (fg<rr)) then
   bif (aN fg (List.length ab)) then
    ajP N (List.getD ab (Int.toNat fg) b9) aj (fun l8=>
     bif l8 then
      eP fg
     else
      (pw N ab aj rr mD dF eP) (IntKind.wrap .i64 (fg+(1:Int))))
   else none
  else
   dF
noncomputable def atQ (N:Nat) (a0:(List QJ)) (adE:Int) (kf:Int→Option aa):Option aa:=
 pw N a0 adE (List.length a0:Int) N (kf (-1:Int)) kf (0:Int)
noncomputable def Se (N:Nat) (a0:(List QJ)) (a1:Int) (kf:Int→Option aa):Option aa:=
 atQ N a0 a1 kf
noncomputable def ajQ (N:Nat) (a0:(List QJ)) (a1:Int) (a2:(List QJ)) (kf:(List QJ)→Option aa):Option aa:=
 bif (decide ((0:Int)≤a1)&&(decide (a1≤(List.length a0:Int))&&(Nat.blt 0 (List.length a2)&&Nat.ble ((List.length a0+List.length a2)*Ty.size bS) 4398046511104))) then
  kf (List.take (Int.toNat a1) a0++a2++List.drop (Int.toNat a1) a0)
 else none
noncomputable def rC (ju:Int) (jM:Int) (iD:QC) (ajR:QC) (xn:QC):Nat→(Int→Option aa)→Int→Option aa
 |0,_,_=>none
 |n_9+1,eH,ZT=>
  bif (decide (ZT<(List.length xn.2.1:Int))) then
   bif (aN ZT (List.length xn.2.1)) then
    bif (decide ((List.getD xn.2.1 (Int.toNat ZT) b9).1<ju)) then
     (rC ju jM iD ajR xn n_9 eH) (IntKind.wrap .i64 (ZT+(1:Int)))
    else
     eH ZT
   else none
  else
   eH ZT
noncomputable def I32 (N:Nat) (a0:QC) (a1:Int) (a2:Int) (kf:QC→Bool→Option aa):Option aa:=
 IE N a0 (fun cH=>
  Se N a0.2.1 a1 (fun ES=>
   bif (decide (ES≥(0:Int))) then
    kf cH false
   else
    rC a1 a2 a0 (([]:(List QT)),(([]:(List QJ)),(([]:(List a7)),(([]:(List Int)),(([]:(List QB)),(([]:(List QL)),(0:Int))))))) cH N (fun ayd=>
     ajQ N cH.2.1 ayd [(a1,(a2,([]:(List Int))))] (fun atS=>
      IM N a0 (cH.1,(atS,cH.2.2)) (2:Int) a1 kf)) (0:Int)))
noncomputable def ajS (N:Nat) (a0:(List QT)) (kf:(List QT)→Option aa):Option aa:=
 bif (List.isEmpty a0) then
  both (kf ([]:(List QT))) (
   bif (decide ((List.length ([]:(List QT))+List.length a0)*6≤4398046511104)) then
    kf (([]:(List QT))++a0)
   else none)
 else
  bif (decide ((List.length ([]:(List QT))+List.length a0)*6≤4398046511104)) then
   kf (([]:(List QT))++a0)
  else none
noncomputable def IN (kf:Int→Option aa) (aye:Int) (azL:Int):Option aa:=
 bif (aN (IntKind.wrap .u8 aye) (ByteArray.size aQ)) then
  kf (IntKind.wrap .i64 (azL+(IntKind.wrap .i64 (bt aQ (IntKind.wrap .u8 aye)))))
 else none
noncomputable def IP (kf:Int→Option aa) (atT:Int) (ayf:Int):Option aa:=
 bif (decide (atT≥(256:Int))) then
  bif (decide (0≤(8:Int))) then
   IN kf (Int.fdiv atT (2^(min (Int.toNat (8:Int)) (IntKind.bits .u64)))) (IntKind.wrap .i64 (ayf+(8:Int)))
  else none
 else
  IN kf atT ayf
noncomputable def IQ (kf:Int→Option aa) (atU:Int) (ayg:Int):Option aa:=
 bif (decide (atU≥(65536:Int))) then
  bif (decide (0≤(16:Int))) then
   IP kf (Int.fdiv atU (2^(min (Int.toNat (16:Int)) (IntKind.bits .u64)))) (IntKind.wrap .i64 (ayg+(16:Int)))
  else none
 else
  IP kf atU ayg
noncomputable def atV (N:Nat) (a0:Int) (kf:Int→Option aa):Option aa:=
 bif (decide (a0≥(4294967296:Int))) then
  bif (decide (0≤(32:Int))) then
   IQ kf (Int.fdiv a0 (2^(min (Int.toNat (32:Int)) (IntKind.bits .u64)))) (32:Int)
  else none
 else
  IQ kf a0 (0:Int)
noncomputable def ajT (N:Nat) (a0:Int) (kf:Int→Option aa):Option aa:=
 atV N a0 kf
noncomputable def ajU (N:Nat) (a0:Int) (kf:Bool→Option aa):Option aa:=
 kf (a0 != a0)
noncomputable def ZU (N:Nat) (a0:Int) (a1:Int) (kf:Int→Option aa):Option aa:=
 ajU N a0 (fun ru=>
  ajU N a1 (fun Ws=>
   bif ru then
    bif Ws then
     kf (0:Int)
    else
     kf (-1:Int)
   else
    bif Ws then
     kf (1:Int)
    else
     bif (decide (a0<a1)) then
      kf (-1:Int)
     else
      bif (decide (a0>a1)) then
       kf (1:Int)
      else
       kf (0:Int)))
noncomputable def py (bF:Int) (iC:(List Int)) (rr:Int):Nat→(Option aa)→(Int→Option aa)→Int→Option aa
 |0,_,_,_=>none
 |mD+1,ba,Ax,fg=>
  bif (decide (fg<rr)) then
   bif (aN fg (List.length iC)) then
    bif ((List.getD iC (Int.toNat fg) (0:Int)) != bF) then
     Ax (List.getD iC (Int.toNat fg) (0:Int))
    else
     (py bF iC rr mD ba Ax) (IntKind.wrap .i64 (fg+(1:Int)))
   else none
  else
   ba
noncomputable def ajV (N:Nat) (a0:(List Int)) (kf:Int→Option aa):Option aa:=
 py (0:Int) a0 (List.length a0:Int) N (kf (0:Int)) kf (0:Int)
noncomputable def ajW (N:Nat) (a0:QT) (a1:QT) (kf:Int→Option aa):Option aa:=
 ZU N a1.2.2.1 a0.2.2.1 (fun kt=>
  ZU N a1.2.2.2.1 a0.2.2.2.1 (fun cj=>
   ZU N a0.1 a1.1 (fun Nl=>
    ajV N [kt,cj,Nl] kf)))
noncomputable def sC (N:Nat) (ij:Int) (ZV:Int) (azM:Int):Nat→((List QT)→Option aa)→(List QT)→Int→Option aa
 |0,_,_,_=>none
 |Sc+1,IS,eG,mS=>
  bif (decide (mS>ij)) then
   bif (aN mS (List.length eG)) then
    bif (aN (IntKind.wrap .i64 (mS - (1:Int))) (List.length eG)) then
     ajW N (List.getD eG (Int.toNat mS) au) (List.getD eG (Int.toNat (IntKind.wrap .i64 (mS - (1:Int)))) au) (fun atW=>
      bif (decide (atW<(0:Int))) then
       bif (aN (IntKind.wrap .i64 (mS - (1:Int))) (List.length eG)) then
        bif (aN mS (List.length eG)) then
         bif (aN mS (List.length eG)) then
          share (List.set eG (Int.toNat mS) (List.getD eG (Int.toNat (IntKind.wrap .i64 (mS - (1:Int)))) au)) (fun arW=>
           bif (aN (IntKind.wrap .i64 (mS - (1:Int))) (List.length arW)) then
            share (List.set arW (Int.toNat (IntKind.wrap .i64 (mS - (1:Int)))) (List.getD eG (Int.toNat mS) au)) (fun ayh=>
             (sC N ij ZV azM Sc IS) ayh (IntKind.wrap .i64 (mS - (1:Int))))
           else none)
         else none
        else none
       else none
      else
       IS eG)
    else none
   else none
  else
   IS eG
noncomputable def pz (N:Nat) (aj:Int) (fy:Int):Nat→((List QT)→Option aa)→(List QT)→Int→Option aa
 |0,_,_,_=>none
 |mD+1,Wt,ab,fg=>
  bif (decide (fg<fy)) then
   sC N aj fy fg N (fun ayi=>
    (pz N aj fy mD Wt) ayi (IntKind.wrap .i64 (fg+(1:Int)))) ab fg
  else
   Wt ab
noncomputable def atX (N:Nat) (a0:(List QT)) (a1:Int) (a2:Int) (kf:(List QT)→Option aa):Option aa:=
 pz N a1 a2 N kf a0 (IntKind.wrap .i64 (a1+(1:Int)))
noncomputable def IT (N:Nat) (ab:(List QT)) (aj:Int) (fy:Int) (cI:Int) (gq:Bool) (aAc:Bool):Nat→((List QT)→Option aa)→Option aa
 |0,_=>none
 |n_7+1,iW=>
  bif (decide ((IntKind.wrap .i64 (fy - aj))≤(12:Int))) then
   atX N ab aj fy iW
  else
   bif (cI==(0:Int)) then
    none
   else
    bif (!gq) then
     none
    else none
noncomputable def ajX (N:Nat) (a0:(List QT)) (a1:Int) (a2:Int) (a3:Int) (kf:(List QT)→Option aa):Option aa:=
 IT N a0 a1 a2 a3 true true N kf
noncomputable def ajY (N:Nat) (a0:(List QT)) (kf:(List QT)→Option aa):Option aa:=
 ajT N (IntKind.wrap .u64 (List.length a0:Int)) (fun cH=>
  ajX N a0 (0:Int) (List.length a0:Int) cH kf)
noncomputable def pA (gN:(List QT)) (arX:Int):Nat→((List Int)→Option aa)→(List Int)→Int→Option aa
 |0,_,_,_=>none
 |n_8+1,Ay,cI,Nn=>
  bif (decide (Nn<arX)) then
   bif (aN Nn (List.length gN)) then
    bif (decide ((List.length cI+List.length [(List.getD gN (Int.toNat Nn) au).1])*1≤4398046511104)) then
     (pA gN arX n_8 Ay) (cI++[(List.getD gN (Int.toNat Nn) au).1]) (IntKind.wrap .i64 (Nn+(1:Int)))
    else none
   else none
  else
   Ay cI
noncomputable def adR (N:Nat) (a0:(List QT)) (kf:(List Int)→Option aa):Option aa:=
 As N a0 (fun kt=>
  bif (!kt) then
   kf ([]:(List Int))
  else
   ajS N a0 (fun fQ=>
    ajY N fQ (fun ayj=>
     pA ayj (List.length ayj:Int) N kf ([]:(List Int)) (0:Int))))
noncomputable def atY (N:Nat) (a0:(List Int)) (a1:Int) (kf:(List Int)→Option aa):Option aa:=
 bif (List.isEmpty a0&&(decide ((0:Int)≤a1)&&decide (a1≤(549755813888:Int)))) then
  kf ([]:List Int)
 else none
noncomputable def ku (ik:(List (List Int))) (adS:Int):Nat→((List Int)→Option aa)→(List Int)→Int→Option aa
 |0,_,_,_=>none
 |azN+1,ob,kX,ET=>
  bif (decide (ET<adS)) then
   bif (aN ET (List.length ik)) then
    bif (decide ((List.length kX+List.length (List.getD ik (Int.toNat ET) ([]:(List Int))))*1≤4398046511104)) then
     (ku ik adS azN ob) (kX++(List.getD ik (Int.toNat ET) ([]:(List Int)))) (IntKind.wrap .i64 (ET+(1:Int)))
    else none
   else none
  else
   ob kX
noncomputable def pB (ab:(List (List Int))) (mi:(List (List Int))) (gu:Int):Nat→(Int→Option aa)→Int→Int→Option aa
 |0,_,_,_=>none
 |Wp+1,bI,ao,No=>
  bif (decide (No<gu)) then
   bif (aN No (List.length mi)) then
    bif (decide ((IntKind.wrap .i64 (ao+(List.length (List.getD mi (Int.toNat No) ([]:(List Int))):Int)))<(0:Int))) then
     none
    else
     (pB ab mi gu Wp bI) (IntKind.wrap .i64 (ao+(List.length (List.getD mi (Int.toNat No) ([]:(List Int))):Int))) (IntKind.wrap .i64 (No+(1:Int)))
   else none
  else
   bI ao
noncomputable def ajZ (N:Nat) (a0:(List (List Int))) (kf:(List Int)→Option aa):Option aa:=
 pB a0 a0 (List.length a0:Int) N (fun azO=>
  atY N ([]:(List Int)) azO (fun atZ=>
   ku a0 (List.length a0:Int) N kf atZ (0:Int))) (0:Int) (0:Int)
noncomputable def aj0 (N:Nat) (a0:(List QT)) (a1:Int) (a2:Int) (kf:a7→Option aa):Option aa:=
 Nb N a0 a1 (fun Np=>
  Nb N a0 a2 (fun Nq=>
   As N a0 (fun Nl=>
    bif (!Nl) then
     kf ((0:Int),(0:Int))
    else
     bif (decide (Np<(0:Int))) then
      kf ((0:Int),(0:Int))
     else
      bif (decide (Nq<(0:Int))) then
       kf ((0:Int),(0:Int))
      else
       bif (Np==Nq) then
        kf ((0:Int),(0:Int))
       else
        bif (aN Np (List.length a0)) then
         bif (aN Nq (List.length a0)) then
          adR N a0 (fun arY=>
           bif (decide ((List.getD a0 (Int.toNat Np) au).2.2.2.2.1<(List.getD a0 (Int.toNat Nq) au).2.2.2.2.1)) then
            kf (a1,a2)
           else
            bif ((List.getD a0 (Int.toNat Np) au).2.2.2.2.1==(List.getD a0 (Int.toNat Nq) au).2.2.2.2.1) then
             R8 N arY a1 (fun ayk=>
              R8 N arY a2 (fun ayl=>
               bif (decide (ayk<ayl)) then
                kf (a1,a2)
               else
                kf (a2,a1)))
            else
             kf (a2,a1))
         else none
        else none)))
noncomputable def pC (N:Nat) (self:(List QT)→(List Int)→((List a7)→Bool→Option aa)→Option aa) (ab:(List QT)) (aj:(List Int)):Nat→(Option aa)→((List a7)→Bool→Option aa)→Int→Option aa
 |0,_,_,_=>none
 |fz+1,IU,IV,iE=>
  bif (decide (iE<(List.length aj:Int))) then
   bif (aN (0:Int) (List.length aj)) then
    bif (aN iE (List.length aj)) then
     I77 N ab (List.getD aj (Int.toNat (0:Int)) (0:Int)) (List.getD aj (Int.toNat iE) (0:Int)) (fun aym=>
      bif (!aym) then
       (pC N self ab aj fz IU IV) (IntKind.wrap .i64 (iE+(1:Int)))
      else
       bif (decide ((0:Int)≤(1:Int))&&decide ((1:Int)≤iE)&&decide (iE≤(List.length aj:Int))) then
        bif (decide ((0:Int)≤(IntKind.wrap .i64 (iE+(1:Int))))&&decide ((IntKind.wrap .i64 (iE+(1:Int)))≤(List.length aj:Int))&&decide ((List.length aj:Int)≤(List.length aj:Int))) then
         ajZ N [(List.drop (Int.toNat (1:Int)) (List.take (Int.toNat iE) aj)),(List.drop (Int.toNat (IntKind.wrap .i64 (iE+(1:Int)))) (List.take (Int.toNat (List.length aj:Int)) aj))] (fun adT=>
          self ab adT (fun arZ ayn=>
           bif ayn then
            bif (aN (0:Int) (List.length aj)) then
             bif (aN iE (List.length aj)) then
              aj0 N ab (List.getD aj (Int.toNat (0:Int)) (0:Int)) (List.getD aj (Int.toNat iE) (0:Int)) (fun ar0=>
               bif (decide ((List.length [ar0]+List.length arZ)*2≤4398046511104)) then
                IV ([ar0]++arZ) true
               else none)
             else none
            else none
           else
            (pC N self ab aj fz IU IV) (IntKind.wrap .i64 (iE+(1:Int)))))
        else none
       else none)
    else none
   else none
  else
   IU
noncomputable def Sf (self:(List QT)→(List Int)→((List a7)→Bool→Option aa)→Option aa) (N:Nat) (a0:(List QT)) (a1:(List Int)) (kf:(List a7)→Bool→Option aa):Option aa:=
 bif ((List.length a1:Int)==(0:Int)) then
  kf ([]:(List a7)) true
 else
  pC N self a0 a1 N (kf ([]:(List a7)) false) kf (1:Int)
noncomputable def Sg:Nat→(List QT)→(List Int)→((List a7)→Bool→Option aa)→Option aa
 |0,_,_,_=>none
 |N+1,a0,a1,kf=>Sf (Sg N) N a0 a1 kf
noncomputable def aj1 (N:Nat) (a0:(List QT)) (kf:(List a7)→Bool→Option aa):Option aa:=
 As N a0 (fun EK=>
  bif (!EK) then
   kf ([]:(List a7)) false
  else
   bif ((Int.tmod (List.length a0:Int) (2:Int))==(1:Int)) then
    kf ([]:(List a7)) false
   else
    adR N a0 (fun oa=>
     Sg N a0 oa kf))
noncomputable def mT (N:Nat) (self:(List QT)→(List QJ)→(List a7)→(List Int)→((List Int)→Bool→Option aa)→Option aa) (ab:(List QT)) (aj:(List QJ)) (fy:(List a7)) (cI:(List Int)) (tO:(List QJ)) (Wu:Int):Nat→(Option aa)→((List Int)→Bool→Option aa)→Int→Option aa
 |0,_,_,_=>none
 |n_8+1,Dh,Di,rD=>
  bif (decide (rD<Wu)) then
   bif (aN rD (List.length tO)) then
    S82 N cI (List.getD tO (Int.toNat rD) b9).1 (fun ayo=>
     bif ayo then
      (mT N self ab aj fy cI tO Wu n_8 Dh Di) (IntKind.wrap .i64 (rD+(1:Int)))
     else
      bif (aN (0:Int) (List.length fy)) then
       I83 N ab (List.getD tO (Int.toNat rD) b9) (List.getD fy (Int.toNat (0:Int)) cA) (fun at0=>
        bif (!at0) then
         (mT N self ab aj fy cI tO Wu n_8 Dh Di) (IntKind.wrap .i64 (rD+(1:Int)))
        else
         bif (decide ((0:Int)≤(1:Int))&&decide ((1:Int)≤(List.length fy:Int))&&decide ((List.length fy:Int)≤(List.length fy:Int))) then
          ID N cI (fun adU=>
           bif (decide ((List.length adU+List.length [(List.getD tO (Int.toNat rD) b9).1])*1≤4398046511104)) then
            self ab aj (List.drop (Int.toNat (1:Int)) (List.take (Int.toNat (List.length fy:Int)) fy)) (adU++[(List.getD tO (Int.toNat rD) b9).1]) (fun adV at1=>
             bif at1 then
              bif (decide ((List.length [(List.getD tO (Int.toNat rD) b9).1]+List.length adV)*1≤4398046511104)) then
               Di ([(List.getD tO (Int.toNat rD) b9).1]++adV) true
              else none
             else
              (mT N self ab aj fy cI tO Wu n_8 Dh Di) (IntKind.wrap .i64 (rD+(1:Int))))
           else none)
         else none)
      else none)
   else none
  else
   Dh
noncomputable def Sh (self:(List QT)→(List QJ)→(List a7)→(List Int)→((List Int)→Bool→Option aa)→Option aa) (N:Nat) (a0:(List QT)) (a1:(List QJ)) (a2:(List a7)) (a3:(List Int)) (kf:(List Int)→Bool→Option aa):Option aa:=
 bif ((List.length a2:Int)==(0:Int)) then
  kf ([]:(List Int)) true
 else
  mT N self a0 a1 a2 a3 a1 (List.length a1:Int) N (kf ([]:(List Int)) false) kf (0:Int)
noncomputable def Si:Nat→(List QT)→(List QJ)→(List a7)→(List Int)→((List Int)→Bool→Option aa)→Option aa
 |0,_,_,_,_,_=>none
 |N+1,a0,a1,a2,a3,kf=>Sh (Si N) N a0 a1 a2 a3 kf
noncomputable def aj2 (N:Nat) (a0:(List QT)) (a1:(List QJ)) (a2:(List a7)) (kf:(List Int)→Bool→Option aa):Option aa:=
 I79 N a1 (fun kt=>
  bif (!kt) then
   kf ([]:(List Int)) false
  else
   As N a0 (fun fQ=>
    bif (!fQ) then
     kf ([]:(List Int)) false
    else
     bif (decide ((List.length a2:Int)>(List.length a1:Int))) then
      kf ([]:(List Int)) false
     else
      Si N a0 a1 a2 ([]:(List Int)) kf))
noncomputable def I23 (N:Nat) (a0:QC) (kf:QC→Bool→Option aa):Option aa:=
 IE N a0 (fun dG=>
  I39 N a0 (fun Ni=>
   bif (!Ni) then
    kf dG false
   else
    I16 N a0 (fun qu=>
     bif qu then
      kf dG false
     else
      bif ((List.length a0.1:Int)==(0:Int)) then
       kf dG false
      else
       aj1 N a0.1 (fun EU adW=>
        aj2 N a0.1 a0.2.1 EU (fun ayp ayq=>
         bif (!adW) then
          kf dG false
         else
          bif (!ayq) then
           kf dG false
          else
           bif (decide ((List.length EU:Int)=(List.length EU:Int))&&decide ((0:Int)≤(List.length EU:Int))&&decide ((List.length EU:Int)≤1099511627776)) then
            IM N a0 (dG.1,(dG.2.1,(EU,(ayp,((List.replicate (Int.toNat (List.length EU:Int)) ((0:Int),((0:Int),(0:Int)))),dG.2.2.2.2.2))))) (3:Int) (0:Int) kf
           else none)))))
noncomputable def I35 (N:Nat) (a0:QC) (a1:Int) (a2:Int) (a3:Int) (kf:QC→Bool→Option aa):Option aa:=
 IE N a0 (fun ee=>
  I39 N a0 (fun ES=>
   bif (!ES) then
    kf ee false
   else
    bif (decide (a1<(0:Int))) then
     kf ee false
    else
     bif (decide (a1≥(List.length a0.2.2.1:Int))) then
      kf ee false
     else
      bif (aN a1 (List.length a0.2.2.2.2.1)) then
       bif (!((decide (((List.getD a0.2.2.2.2.1 (Int.toNat a1) fp).1:Int)=(0:Int)))&&((decide (((List.getD a0.2.2.2.2.1 (Int.toNat a1) fp).2.1:Int)=(0:Int)))&&(decide (((List.getD a0.2.2.2.2.1 (Int.toNat a1) fp).2.2:Int)=(0:Int)))))) then
        kf ee false
       else
        bif (aN a1 (List.length a0.2.2.2.1)) then
         Nh N ((List.getD a0.2.2.2.1 (Int.toNat a1) (0:Int)),(a2,a3)) (fun ayr=>
          bif (!ayr) then
           kf ee false
          else
           bif (aN a1 (List.length ee.2.2.2.2.1)) then
            IM N a0 (ee.1,(ee.2.1,(ee.2.2.1,(ee.2.2.2.1,((List.set ee.2.2.2.2.1 (Int.toNat a1) ((List.getD a0.2.2.2.1 (Int.toNat a1) (0:Int)),(a2,a3))),ee.2.2.2.2.2))))) (4:Int) (List.getD a0.2.2.2.1 (Int.toNat a1) (0:Int)) kf
           else none)
        else none
      else none))
noncomputable def rE (gm:(List QB)) (mi:Int):Nat→((List Int)→Option aa)→(List Int)→Int→Option aa
 |0,_,_,_=>none
 |mD+1,bI,bF,gu=>
  bif (decide (gu<mi)) then
   bif (aN gu (List.length gm)) then
    bif ((decide (((List.getD gm (Int.toNat gu) fp).1:Int)=(0:Int)))&&((decide (((List.getD gm (Int.toNat gu) fp).2.1:Int)=(0:Int)))&&(decide (((List.getD gm (Int.toNat gu) fp).2.2:Int)=(0:Int))))) then
     bif (decide ((List.length bF+List.length [gu])*1≤4398046511104)) then
      (rE gm mi mD bI) (bF++[gu]) (IntKind.wrap .i64 (gu+(1:Int)))
     else none
    else
     (rE gm mi mD bI) bF (IntKind.wrap .i64 (gu+(1:Int)))
   else none
  else
   bI bF
noncomputable def I41 (N:Nat) (a0:QC) (kf:(List Int)→Option aa):Option aa:=
 rE a0.2.2.2.2.1 (List.length a0.2.2.2.2.1:Int) N kf ([]:(List Int)) (0:Int)
noncomputable def mU (N:Nat) (ab:(List QB)) (gm:(List QB)) (mi:Int):Nat→(Option aa)→(Bool→Option aa)→Int→Option aa
 |0,_,_,_=>none
 |mD+1,il,pD,gu=>
  bif (decide (gu<mi)) then
   bif (aN gu (List.length gm)) then
    Nh N (List.getD gm (Int.toNat gu) fp) (fun l8=>
     bif (!l8) then
      pD false
     else
      bif (decide (gu>(0:Int))) then
       bif (aN (IntKind.wrap .i64 (gu - (1:Int))) (List.length ab)) then
        bif (decide ((List.getD gm (Int.toNat gu) fp).1≤(List.getD ab (Int.toNat (IntKind.wrap .i64 (gu - (1:Int)))) fp).1)) then
         pD false
        else
         (mU N ab gm mi mD il pD) (IntKind.wrap .i64 (gu+(1:Int)))
       else none
      else
       (mU N ab gm mi mD il pD) (IntKind.wrap .i64 (gu+(1:Int))))
   else none
  else
   il
noncomputable def ZW (N:Nat) (a0:(List QB)) (kf:Bool→Option aa):Option aa:=
 bif (decide ((List.length a0:Int)>(9:Int))) then
  kf false
 else
  mU N a0 a0 (List.length a0:Int) N (kf true) kf (0:Int)
noncomputable def ZX (N:Nat) (a0:QB) (kf:Int→Option aa):Option aa:=
 bif (decide (a0.2.1>a0.2.2)) then
  kf (1:Int)
 else
  kf (2:Int)
noncomputable def mV (N:Nat) (aj:Int) (bP:(List QB)) (jy:Int):Nat→(Int→Option aa)→Int→Int→Option aa
 |0,_,_,_=>none
 |n_7+1,eH,ak,oc=>
  bif (decide (oc<jy)) then
   bif (aN oc (List.length bP)) then
    ZX N (List.getD bP (Int.toNat oc) fp) (fun adX=>
     bif (adX==aj) then
      (mV N aj bP jy n_7 eH) (IntKind.wrap .i64 (ak+(1:Int))) (IntKind.wrap .i64 (oc+(1:Int)))
     else
      (mV N aj bP jy n_7 eH) ak (IntKind.wrap .i64 (oc+(1:Int))))
   else none
  else
   eH ak
noncomputable def adY (N:Nat) (a0:(List QB)) (a1:Int) (kf:Int→Option aa):Option aa:=
 ZW N a0 (fun kt=>
  bif (!kt) then
   kf (0:Int)
  else
   mV N a1 a0 (List.length a0:Int) N kf (0:Int) (0:Int))
noncomputable def lp (aj:Int) (bP:(List QB)) (jy:Int):Nat→(Int→Option aa)→Int→Int→Option aa
 |0,_,_,_=>none
 |n_7+1,ig,ak,oc=>
  bif (decide (oc<jy)) then
   bif (aN oc (List.length bP)) then
    bif (aj==(1:Int)) then
     (lp aj bP jy n_7 ig) (IntKind.wrap .i64 (ak+(List.getD bP (Int.toNat oc) fp).2.1)) (IntKind.wrap .i64 (oc+(1:Int)))
    else
     bif (aj==(2:Int)) then
      (lp aj bP jy n_7 ig) (IntKind.wrap .i64 (ak+(List.getD bP (Int.toNat oc) fp).2.2)) (IntKind.wrap .i64 (oc+(1:Int)))
     else
      (lp aj bP jy n_7 ig) ak (IntKind.wrap .i64 (oc+(1:Int)))
   else none
  else
   ig ak
noncomputable def Sj (N:Nat) (a0:(List QB)) (a1:Int) (kf:Int→Option aa):Option aa:=
 ZW N a0 (fun kt=>
  bif (!kt) then
   kf (0:Int)
  else
   lp a1 a0 (List.length a0:Int) N kf (0:Int) (0:Int))
noncomputable def Wv (N:Nat) (a0:(List QB)) (kf:Int→Option aa):Option aa:=
 bif (aN (0:Int) (List.length a0)) then
  ZX N (List.getD a0 (Int.toNat (0:Int)) fp) kf
 else none
noncomputable def ZY (N:Nat) (a0:(List QB)) (kf:Int→Option aa):Option aa:=
 bif ((List.length a0:Int)==(0:Int)) then
  kf (0:Int)
 else
  ZW N a0 (fun dG=>
   bif (!dG) then
    kf (0:Int)
   else
    adY N a0 (1:Int) (fun cj=>
     adY N a0 (2:Int) (fun qu=>
      Sj N a0 (1:Int) (fun EV=>
       Sj N a0 (2:Int) (fun adZ=>
        bif (decide ((IntKind.wrap .i64 (cj - qu))>(0:Int))) then
         kf (1:Int)
        else
         bif ((IntKind.wrap .i64 (cj - qu))==(0:Int)) then
          bif (decide ((IntKind.wrap .i64 (EV - adZ))>(0:Int))) then
           kf (1:Int)
          else
           bif (decide ((IntKind.wrap .i64 (cj - qu))<(0:Int))) then
            kf (2:Int)
           else
            bif (decide ((IntKind.wrap .i64 (EV - adZ))<(0:Int))) then
             kf (2:Int)
            else
             Wv N a0 kf
         else
          bif (decide ((IntKind.wrap .i64 (cj - qu))<(0:Int))) then
           kf (2:Int)
          else
           bif (decide ((IntKind.wrap .i64 (EV - adZ))<(0:Int))) then
            kf (2:Int)
           else
            Wv N a0 kf)))))
noncomputable def IW (N:Nat) (a0:(List QT)) (a4:Int) (a5:Int) (kf:(List QT)→Bool→Option aa) (ae:Int) (aE:Int) (bw:(List QT)):Option aa:=
 bif (aN ae (List.length bw)) then
  bif (aN ae (List.length bw)) then
   bif (aN aE (List.length (List.set bw (Int.toNat ae) ((List.getD bw (Int.toNat ae) au).1,((List.getD bw (Int.toNat ae) au).2.1,((List.getD bw (Int.toNat ae) au).2.2.1,((IntKind.wrap .i64 ((List.getD bw (Int.toNat ae) au).2.2.2.1+a4)),(List.getD bw (Int.toNat ae) au).2.2.2.2))))))) then
    bif (aN aE (List.length (List.set bw (Int.toNat ae) ((List.getD bw (Int.toNat ae) au).1,((List.getD bw (Int.toNat ae) au).2.1,((List.getD bw (Int.toNat ae) au).2.2.1,((IntKind.wrap .i64 ((List.getD bw (Int.toNat ae) au).2.2.2.1+a4)),(List.getD bw (Int.toNat ae) au).2.2.2.2))))))) then
     share (List.set (List.set bw (Int.toNat ae) ((List.getD bw (Int.toNat ae) au).1,((List.getD bw (Int.toNat ae) au).2.1,((List.getD bw (Int.toNat ae) au).2.2.1,((IntKind.wrap .i64 ((List.getD bw (Int.toNat ae) au).2.2.2.1+a4)),(List.getD bw (Int.toNat ae) au).2.2.2.2))))) (Int.toNat aE) ((List.getD (List.set bw (Int.toNat ae) ((List.getD bw (Int.toNat ae) au).1,((List.getD bw (Int.toNat ae) au).2.1,((List.getD bw (Int.toNat ae) au).2.2.1,((IntKind.wrap .i64 ((List.getD bw (Int.toNat ae) au).2.2.2.1+a4)),(List.getD bw (Int.toNat ae) au).2.2.2.2))))) (Int.toNat aE) au).1,((List.getD (List.set bw (Int.toNat ae) ((List.getD bw (Int.toNat ae) au).1,((List.getD bw (Int.toNat ae) au).2.1,((List.getD bw (Int.toNat ae) au).2.2.1,((IntKind.wrap .i64 ((List.getD bw (Int.toNat ae) au).2.2.2.1+a4)),(List.getD bw (Int.toNat ae) au).2.2.2.2))))) (Int.toNat aE) au).2.1,((List.getD (List.set bw (Int.toNat ae) ((List.getD bw (Int.toNat ae) au).1,((List.getD bw (Int.toNat ae) au).2.1,((List.getD bw (Int.toNat ae) au).2.2.1,((IntKind.wrap .i64 ((List.getD bw (Int.toNat ae) au).2.2.2.1+a4)),(List.getD bw (Int.toNat ae) au).2.2.2.2))))) (Int.toNat aE) au).2.2.1,((IntKind.wrap .i64 ((List.getD (List.set bw (Int.toNat ae) ((List.getD bw (Int.toNat ae) au).1,((List.getD bw (Int.toNat ae) au).2.1,((List.getD bw (Int.toNat ae) au).2.2.1,((IntKind.wrap .i64 ((List.getD bw (Int.toNat ae) au).2.2.2.1+a4)),(List.getD bw (Int.toNat ae) au).2.2.2.2))))) (Int.toNat aE) au).2.2.2.1+a5)),(List.getD (List.set bw (Int.toNat ae) ((List.getD bw (Int.toNat ae) au).1,((List.getD bw (Int.toNat ae) au).2.1,((List.getD bw (Int.toNat ae) au).2.2.1,((IntKind.wrap .i64 ((List.getD bw (Int.toNat ae) au).2.2.2.1+a4)),(List.getD bw (Int.toNat ae) au).2.2.2.2))))) (Int.toNat aE) au).2.2.2.2))))) (fun ad0=>
      As N ad0 (fun IX=>
       bif (!IX) then
        RZ N a0 (fun IY=>
         kf IY false)
       else
        kf ad0 true))
    else none
   else none
  else none
 else none
noncomputable def ZZ (N:Nat) (a0:(List QT)) (a1:Int) (a2:Int) (a3:Int) (a4:Int) (a5:Int) (kf:(List QT)→Bool→Option aa):Option aa:=
 RZ N a0 (fun aD=>
  Nb N a0 a1 (fun ae=>
   Nb N a0 a2 (fun aE=>
    As N a0 (fun kx=>
     bif (!kx) then
      kf aD false
     else
      bif (decide (ae<(0:Int))) then
       kf aD false
      else
       bif (decide (aE<(0:Int))) then
        kf aD false
       else
        bif (ae==aE) then
         kf aD false
        else
         eD N a3 (1:Int) (2:Int) (fun ad1=>
          bif (!ad1) then
           kf aD false
          else
           eD N a4 (0:Int) (1000:Int) (fun ad2=>
            bif (!ad2) then
             kf aD false
            else
             eD N a5 (0:Int) (1000:Int) (fun ad3=>
              bif (!ad3) then
               kf aD false
              else
               bif (aN ae (List.length aD)) then
                bif (aN aE (List.length aD)) then
                 bif (decide ((List.length (List.getD aD (Int.toNat ae) au).2.2.2.2.2+List.length [a2])*1≤4398046511104)) then
                  bif ((!(Nat.beq (Int.toNat ae) (Int.toNat aE)))&&true) then
                   bif (decide ((List.length (List.getD aD (Int.toNat aE) au).2.2.2.2.2+List.length [a1])*1≤4398046511104)) then
                    bif (aN ae (List.length aD)) then
                     bif (Nat.beq (Int.toNat ae) (Int.toNat ae)) then
                      bif (aN aE (List.length (List.set aD (Int.toNat ae) ((List.getD aD (Int.toNat ae) au).1,((List.getD aD (Int.toNat ae) au).2.1,((List.getD aD (Int.toNat ae) au).2.2.1,((List.getD aD (Int.toNat ae) au).2.2.2.1,((List.getD aD (Int.toNat ae) au).2.2.2.2.1,((List.getD aD (Int.toNat ae) au).2.2.2.2.2++[a2]))))))))) then
                       bif (Nat.beq (Int.toNat aE) (Int.toNat aE)) then
                        share (List.set (List.set aD (Int.toNat ae) ((List.getD aD (Int.toNat ae) au).1,((List.getD aD (Int.toNat ae) au).2.1,((List.getD aD (Int.toNat ae) au).2.2.1,((List.getD aD (Int.toNat ae) au).2.2.2.1,((List.getD aD (Int.toNat ae) au).2.2.2.2.1,((List.getD aD (Int.toNat ae) au).2.2.2.2.2++[a2]))))))) (Int.toNat aE) ((List.getD (List.set aD (Int.toNat ae) ((List.getD aD (Int.toNat ae) au).1,((List.getD aD (Int.toNat ae) au).2.1,((List.getD aD (Int.toNat ae) au).2.2.1,((List.getD aD (Int.toNat ae) au).2.2.2.1,((List.getD aD (Int.toNat ae) au).2.2.2.2.1,((List.getD aD (Int.toNat ae) au).2.2.2.2.2++[a2]))))))) (Int.toNat aE) au).1,((List.getD (List.set aD (Int.toNat ae) ((List.getD aD (Int.toNat ae) au).1,((List.getD aD (Int.toNat ae) au).2.1,((List.getD aD (Int.toNat ae) au).2.2.1,((List.getD aD (Int.toNat ae) au).2.2.2.1,((List.getD aD (Int.toNat ae) au).2.2.2.2.1,((List.getD aD (Int.toNat ae) au).2.2.2.2.2++[a2]))))))) (Int.toNat aE) au).2.1,((List.getD (List.set aD (Int.toNat ae) ((List.getD aD (Int.toNat ae) au).1,((List.getD aD (Int.toNat ae) au).2.1,((List.getD aD (Int.toNat ae) au).2.2.1,((List.getD aD (Int.toNat ae) au).2.2.2.1,((List.getD aD (Int.toNat ae) au).2.2.2.2.1,((List.getD aD (Int.toNat ae) au).2.2.2.2.2++[a2]))))))) (Int.toNat aE) au).2.2.1,((List.getD (List.set aD (Int.toNat ae) ((List.getD aD (Int.toNat ae) au).1,((List.getD aD (Int.toNat ae) au).2.1,((List.getD aD (Int.toNat ae) au).2.2.1,((List.getD aD (Int.toNat ae) au).2.2.2.1,((List.getD aD (Int.toNat ae) au).2.2.2.2.1,((List.getD aD (Int.toNat ae) au).2.2.2.2.2++[a2]))))))) (Int.toNat aE) au).2.2.2.1,((List.getD (List.set aD (Int.toNat ae) ((List.getD aD (Int.toNat ae) au).1,((List.getD aD (Int.toNat ae) au).2.1,((List.getD aD (Int.toNat ae) au).2.2.1,((List.getD aD (Int.toNat ae) au).2.2.2.1,((List.getD aD (Int.toNat ae) au).2.2.2.2.1,((List.getD aD (Int.toNat ae) au).2.2.2.2.2++[a2]))))))) (Int.toNat aE) au).2.2.2.2.1,((List.getD aD (Int.toNat aE) au).2.2.2.2.2++[a1]))))))) (fun aA=>
                         bif (aN ae (List.length aA)) then
                          bif (aN ae (List.length aA)) then
                           bif (a3==(1:Int)) then
                            bif (aN ae (List.length (List.set aA (Int.toNat ae) ((List.getD aA (Int.toNat ae) au).1,((List.getD aA (Int.toNat ae) au).2.1,((List.getD aA (Int.toNat ae) au).2.2.1,((List.getD aA (Int.toNat ae) au).2.2.2.1,((IntKind.wrap .i64 ((List.getD aA (Int.toNat ae) au).2.2.2.2.1+(1:Int))),(List.getD aA (Int.toNat ae) au).2.2.2.2.2)))))))) then
                             bif (aN ae (List.length (List.set aA (Int.toNat ae) ((List.getD aA (Int.toNat ae) au).1,((List.getD aA (Int.toNat ae) au).2.1,((List.getD aA (Int.toNat ae) au).2.2.1,((List.getD aA (Int.toNat ae) au).2.2.2.1,((IntKind.wrap .i64 ((List.getD aA (Int.toNat ae) au).2.2.2.2.1+(1:Int))),(List.getD aA (Int.toNat ae) au).2.2.2.2.2)))))))) then
                              share (List.set (List.set aA (Int.toNat ae) ((List.getD aA (Int.toNat ae) au).1,((List.getD aA (Int.toNat ae) au).2.1,((List.getD aA (Int.toNat ae) au).2.2.1,((List.getD aA (Int.toNat ae) au).2.2.2.1,((IntKind.wrap .i64 ((List.getD aA (Int.toNat ae) au).2.2.2.2.1+(1:Int))),(List.getD aA (Int.toNat ae) au).2.2.2.2.2)))))) (Int.toNat ae) ((List.getD (List.set aA (Int.toNat ae) ((List.getD aA (Int.toNat ae) au).1,((List.getD aA (Int.toNat ae) au).2.1,((List.getD aA (Int.toNat ae) au).2.2.1,((List.getD aA (Int.toNat ae) au).2.2.2.1,((IntKind.wrap .i64 ((List.getD aA (Int.toNat ae) au).2.2.2.2.1+(1:Int))),(List.getD aA (Int.toNat ae) au).2.2.2.2.2)))))) (Int.toNat ae) au).1,((List.getD (List.set aA (Int.toNat ae) ((List.getD aA (Int.toNat ae) au).1,((List.getD aA (Int.toNat ae) au).2.1,((List.getD aA (Int.toNat ae) au).2.2.1,((List.getD aA (Int.toNat ae) au).2.2.2.1,((IntKind.wrap .i64 ((List.getD aA (Int.toNat ae) au).2.2.2.2.1+(1:Int))),(List.getD aA (Int.toNat ae) au).2.2.2.2.2)))))) (Int.toNat ae) au).2.1,((IntKind.wrap .i64 ((List.getD (List.set aA (Int.toNat ae) ((List.getD aA (Int.toNat ae) au).1,((List.getD aA (Int.toNat ae) au).2.1,((List.getD aA (Int.toNat ae) au).2.2.1,((List.getD aA (Int.toNat ae) au).2.2.2.1,((IntKind.wrap .i64 ((List.getD aA (Int.toNat ae) au).2.2.2.2.1+(1:Int))),(List.getD aA (Int.toNat ae) au).2.2.2.2.2)))))) (Int.toNat ae) au).2.2.1+(1:Int))),(List.getD (List.set aA (Int.toNat ae) ((List.getD aA (Int.toNat ae) au).1,((List.getD aA (Int.toNat ae) au).2.1,((List.getD aA (Int.toNat ae) au).2.2.1,((List.getD aA (Int.toNat ae) au).2.2.2.1,((IntKind.wrap .i64 ((List.getD aA (Int.toNat ae) au).2.2.2.2.1+(1:Int))),(List.getD aA (Int.toNat ae) au).2.2.2.2.2)))))) (Int.toNat ae) au).2.2.2)))) (fun aY=>
                               IW N a0 a4 a5 kf ae aE aY)
                             else none
                            else none
                           else
                            bif (aN aE (List.length (List.set aA (Int.toNat ae) ((List.getD aA (Int.toNat ae) au).1,((List.getD aA (Int.toNat ae) au).2.1,((List.getD aA (Int.toNat ae) au).2.2.1,((List.getD aA (Int.toNat ae) au).2.2.2.1,((IntKind.wrap .i64 ((List.getD aA (Int.toNat ae) au).2.2.2.2.1+(1:Int))),(List.getD aA (Int.toNat ae) au).2.2.2.2.2)))))))) then
                             bif (aN aE (List.length (List.set aA (Int.toNat ae) ((List.getD aA (Int.toNat ae) au).1,((List.getD aA (Int.toNat ae) au).2.1,((List.getD aA (Int.toNat ae) au).2.2.1,((List.getD aA (Int.toNat ae) au).2.2.2.1,((IntKind.wrap .i64 ((List.getD aA (Int.toNat ae) au).2.2.2.2.1+(1:Int))),(List.getD aA (Int.toNat ae) au).2.2.2.2.2)))))))) then
                              share (List.set (List.set aA (Int.toNat ae) ((List.getD aA (Int.toNat ae) au).1,((List.getD aA (Int.toNat ae) au).2.1,((List.getD aA (Int.toNat ae) au).2.2.1,((List.getD aA (Int.toNat ae) au).2.2.2.1,((IntKind.wrap .i64 ((List.getD aA (Int.toNat ae) au).2.2.2.2.1+(1:Int))),(List.getD aA (Int.toNat ae) au).2.2.2.2.2)))))) (Int.toNat aE) ((List.getD (List.set aA (Int.toNat ae) ((List.getD aA (Int.toNat ae) au).1,((List.getD aA (Int.toNat ae) au).2.1,((List.getD aA (Int.toNat ae) au).2.2.1,((List.getD aA (Int.toNat ae) au).2.2.2.1,((IntKind.wrap .i64 ((List.getD aA (Int.toNat ae) au).2.2.2.2.1+(1:Int))),(List.getD aA (Int.toNat ae) au).2.2.2.2.2)))))) (Int.toNat aE) au).1,((List.getD (List.set aA (Int.toNat ae) ((List.getD aA (Int.toNat ae) au).1,((List.getD aA (Int.toNat ae) au).2.1,((List.getD aA (Int.toNat ae) au).2.2.1,((List.getD aA (Int.toNat ae) au).2.2.2.1,((IntKind.wrap .i64 ((List.getD aA (Int.toNat ae) au).2.2.2.2.1+(1:Int))),(List.getD aA (Int.toNat ae) au).2.2.2.2.2)))))) (Int.toNat aE) au).2.1,((IntKind.wrap .i64 ((List.getD (List.set aA (Int.toNat ae) ((List.getD aA (Int.toNat ae) au).1,((List.getD aA (Int.toNat ae) au).2.1,((List.getD aA (Int.toNat ae) au).2.2.1,((List.getD aA (Int.toNat ae) au).2.2.2.1,((IntKind.wrap .i64 ((List.getD aA (Int.toNat ae) au).2.2.2.2.1+(1:Int))),(List.getD aA (Int.toNat ae) au).2.2.2.2.2)))))) (Int.toNat aE) au).2.2.1+(1:Int))),(List.getD (List.set aA (Int.toNat ae) ((List.getD aA (Int.toNat ae) au).1,((List.getD aA (Int.toNat ae) au).2.1,((List.getD aA (Int.toNat ae) au).2.2.1,((List.getD aA (Int.toNat ae) au).2.2.2.1,((IntKind.wrap .i64 ((List.getD aA (Int.toNat ae) au).2.2.2.2.1+(1:Int))),(List.getD aA (Int.toNat ae) au).2.2.2.2.2)))))) (Int.toNat aE) au).2.2.2)))) (fun Sk=>
                               IW N a0 a4 a5 kf ae aE Sk)
                             else none
                            else none
                          else none
                         else none)
                       else none
                      else none
                     else none
                    else none
                   else none
                  else none
                 else none
                else none
               else none)))))))
noncomputable def Z0 (N:Nat) (a0:(List Int)) (kf:(List Int)→Option aa):Option aa:=
 bif (Nat.blt (List.length a0) 4611686018427387904) then
  kf (kV a0)
 else none
noncomputable def ad4 (N:Nat) (a0:(List Int)) (kf:(List Int)→Option aa):Option aa:=
 kf (dm a0)
noncomputable def uQ (N:Nat) (ij:QC) (ZV:QC) (fj:(List a7)) (ad5:Int):Nat→(QC→Option aa)→(QC→Bool→Option aa)→QC→Int→Option aa
 |0,_,_,_,_=>none
 |at2+1,sD,sE,gO,im=>
  bif (decide (im<ad5)) then
   bif (aN im (List.length fj)) then
    bif (aN im (List.length ij.2.2.2.2.1)) then
     ZY N [(List.getD ij.2.2.2.2.1 (Int.toNat im) fp)] (fun EW=>
      ZZ N gO.1 (List.getD fj (Int.toNat im) cA).1 (List.getD fj (Int.toNat im) cA).2 EW (List.getD ij.2.2.2.2.1 (Int.toNat im) fp).2.1 (List.getD ij.2.2.2.2.1 (Int.toNat im) fp).2.2 (fun EX EY=>
       bif (!EY) then
        IE N ij (fun EZ=>
         sE EZ false)
       else
        bif (aN im (List.length ij.2.2.2.1)) then
         Se N gO.2.1 (List.getD ij.2.2.2.1 (Int.toNat im) (0:Int)) (fun cT=>
          bif (aN cT (List.length gO.2.1)) then
           bif (decide ((List.length (List.getD gO.2.1 (Int.toNat cT) b9).2.2+List.length [(List.getD fj (Int.toNat im) cA).1,(List.getD fj (Int.toNat im) cA).2])*1≤4398046511104)) then
            Z0 N ((List.getD gO.2.1 (Int.toNat cT) b9).2.2++[(List.getD fj (Int.toNat im) cA).1,(List.getD fj (Int.toNat im) cA).2]) (fun E0=>
             ad4 N E0 (fun E3=>
              bif (aN cT (List.length gO.2.1)) then
               bif (Nat.beq (Int.toNat cT) (Int.toNat cT)) then
                (uQ N ij ZV fj ad5 at2 sD sE) (EX,((List.set gO.2.1 (Int.toNat cT) ((List.getD gO.2.1 (Int.toNat cT) b9).1,((List.getD gO.2.1 (Int.toNat cT) b9).2.1,E3))),gO.2.2)) (IntKind.wrap .i64 (im+(1:Int)))
               else none
              else none))
           else none
          else none)
        else none))
    else none
   else none
  else
   sD gO
noncomputable def I28 (N:Nat) (a0:QC) (kf:QC→Bool→Option aa):Option aa:=
 I39 N a0 (fun qv=>
  bif (!qv) then
   IE N a0 (fun kx=>
    kf kx false)
  else
   I16 N a0 (fun oa=>
    bif (!oa) then
     IE N a0 (fun kx=>
      kf kx false)
    else
     I41 N a0 (fun ad6=>
      bif (decide ((List.length ad6:Int)>(0:Int))) then
       IE N a0 (fun Nr=>
        kf Nr false)
      else
       IE N a0 (fun ays=>
        uQ N a0 (([]:(List QT)),(([]:(List QJ)),(([]:(List a7)),(([]:(List Int)),(([]:(List QB)),(([]:(List QL)),(0:Int))))))) a0.2.2.1 (List.length a0.2.2.1:Int) N (fun Ww=>
         IM N a0 (Ww.1,(Ww.2.1,(([]:(List a7)),(([]:(List Int)),(([]:(List QB)),(Ww.2.2.2.2.2.1,(IntKind.wrap .i64 (Ww.2.2.2.2.2.2+(List.length a0.2.2.1:Int))))))))) (5:Int) (0:Int) kf) kf ays (0:Int)))))
noncomputable def at3 (N:Nat) (a0:(List QT)) (a1:Int) (a2:Int) (kf:(List QT)→Option aa):Option aa:=
 bif (decide ((0:Int)≤a1)&&(decide (a1≤a2)&&decide (a2≤(List.length a0:Int)))) then
  kf (List.take (Int.toNat a1) a0++List.drop (Int.toNat a2) a0)
 else none
noncomputable def I38 (N:Nat) (a0:QC) (a1:Int) (kf:QC→Bool→Option aa):Option aa:=
 IE N a0 (fun kt=>
  Nb N a0.1 a1 (fun fQ=>
   bif (decide (fQ<(0:Int))) then
    kf kt false
   else
    bif (aN fQ (List.length a0.1)) then
     bif (decide ((List.length (List.getD a0.1 (Int.toNat fQ) au).2.2.2.2.2:Int)>(0:Int))) then
      kf kt false
     else
      I16 N a0 (fun ad7=>
       bif ad7 then
        kf kt false
       else
        at3 N kt.1 fQ (IntKind.wrap .i64 (fQ+(1:Int))) (fun ayt=>
         IM N a0 (ayt,kt.2) (6:Int) a1 kf))
    else none))
noncomputable def I13 (N:Nat) (a0:QC) (a1:QL) (kf:QC→Bool→Option aa):Option aa:=
 bif (a1.1==(1:Int)) then
  I30 N a0 a1.2.1 a1.2.2.1 kf
 else
  bif (a1.1==(2:Int)) then
   I32 N a0 a1.2.1 a1.2.2.1 kf
  else
   bif (a1.1==(3:Int)) then
    I23 N a0 kf
   else
    bif (a1.1==(4:Int)) then
     I35 N a0 a1.2.2.2 a1.2.1 a1.2.2.1 kf
    else
     bif (a1.1==(5:Int)) then
      I28 N a0 kf
     else
      bif (a1.1==(6:Int)) then
       I38 N a0 a1.2.1 kf
      else
       IE N a0 (fun Sl=>
        kf Sl false)
noncomputable def L87 (N:Nat) (a0:(List Int)) (a1:Int) (kf:Int→Option aa):Option aa:=
 bif (decide ((IntKind.wrap .i64 (a1 - (List.length a0:Int)))<(0:Int))) then
  kf (-1:Int)
 else
  kf (IntKind.wrap .i64 (a1 - (List.length a0:Int)))
noncomputable def Z1 (N:Nat) (a0:QT) (a1:Int) (kf:Int→Option aa):Option aa:=
 L87 N a0.2.2.2.2.2 a1 (fun ru=>
  bif (decide (ru<(0:Int))) then
   kf (-1:Int)
  else
   kf ru)
noncomputable def uR (N:Nat) (ab:(List QT)):Nat→(Int→Option aa)→(Int→Option aa)→Int→Int→Option aa
 |0,_,_,_,_=>none
 |fz+1,jO,jP,aj,ak=>
  bif (decide (ak<(List.length ab:Int))) then
   bif (aN ak (List.length ab)) then
    Z1 N (List.getD ab (Int.toNat ak) au) aj (fun gv=>
     bif (decide (gv<(0:Int))) then
      jP (-1:Int)
     else
      (uR N ab fz jO jP) gv (IntKind.wrap .i64 (ak+(1:Int))))
   else none
  else
   jO aj
noncomputable def L84 (N:Nat) (a0:(List QT)) (a1:Int) (kf:Int→Option aa):Option aa:=
 bif (decide ((IntKind.wrap .i64 (a1 - (List.length a0:Int)))<(0:Int))) then
  kf (-1:Int)
 else
  uR N a0 N kf kf (IntKind.wrap .i64 (a1 - (List.length a0:Int))) (0:Int)
noncomputable def Z2 (N:Nat) (a0:QJ) (a1:Int) (kf:Int→Option aa):Option aa:=
 L87 N a0.2.2 a1 (fun ru=>
  bif (decide (ru<(0:Int))) then
   kf (-1:Int)
  else
   kf ru)
noncomputable def uS (N:Nat) (ab:(List QJ)):Nat→(Int→Option aa)→(Int→Option aa)→Int→Int→Option aa
 |0,_,_,_,_=>none
 |fz+1,jO,jP,aj,ak=>
  bif (decide (ak<(List.length ab:Int))) then
   bif (aN ak (List.length ab)) then
    Z2 N (List.getD ab (Int.toNat ak) b9) aj (fun gv=>
     bif (decide (gv<(0:Int))) then
      jP (-1:Int)
     else
      (uS N ab fz jO jP) gv (IntKind.wrap .i64 (ak+(1:Int))))
   else none
  else
   jO aj
noncomputable def L85 (N:Nat) (a0:(List QJ)) (a1:Int) (kf:Int→Option aa):Option aa:=
 bif (decide ((IntKind.wrap .i64 (a1 - (List.length a0:Int)))<(0:Int))) then
  kf (-1:Int)
 else
  uS N a0 N kf kf (IntKind.wrap .i64 (a1 - (List.length a0:Int))) (0:Int)
noncomputable def L86 (N:Nat) (a0:(List a7)) (a1:Int) (kf:Int→Option aa):Option aa:=
 bif (decide ((IntKind.wrap .i64 (a1 - (List.length a0:Int)))<(0:Int))) then
  kf (-1:Int)
 else
  kf (IntKind.wrap .i64 (a1 - (List.length a0:Int)))
noncomputable def L88 (N:Nat) (a0:(List QB)) (a1:Int) (kf:Int→Option aa):Option aa:=
 bif (decide ((IntKind.wrap .i64 (a1 - (List.length a0:Int)))<(0:Int))) then
  kf (-1:Int)
 else
  kf (IntKind.wrap .i64 (a1 - (List.length a0:Int)))
noncomputable def L89 (N:Nat) (a0:(List QL)) (a1:Int) (kf:Int→Option aa):Option aa:=
 bif (decide ((IntKind.wrap .i64 (a1 - (List.length a0:Int)))<(0:Int))) then
  kf (-1:Int)
 else
  kf (IntKind.wrap .i64 (a1 - (List.length a0:Int)))
noncomputable def L20 (N:Nat) (a0:QC) (a1:Int) (kf:Int→Option aa):Option aa:=
 L84 N a0.1 a1 (fun ru=>
  bif (decide (ru<(0:Int))) then
   kf (-1:Int)
  else
   L85 N a0.2.1 ru (fun cj=>
    bif (decide (cj<(0:Int))) then
     kf (-1:Int)
    else
     L86 N a0.2.2.1 cj (fun Ns=>
      bif (decide (Ns<(0:Int))) then
       kf (-1:Int)
      else
       L87 N a0.2.2.2.1 Ns (fun kx=>
        bif (decide (kx<(0:Int))) then
         kf (-1:Int)
        else
         L88 N a0.2.2.2.2.1 kx (fun Nt=>
          bif (decide (Nt<(0:Int))) then
           kf (-1:Int)
          else
           L89 N a0.2.2.2.2.2.1 Nt (fun Nu=>
            bif (decide (Nu<(0:Int))) then
             kf (-1:Int)
            else
             kf Nu))))))
noncomputable def uT (ab:(List Int)):Nat→((List Int)→Option aa)→(List Int)→Int→Option aa
 |0,_,_,_=>none
 |fz+1,eS,ao,bh=>
  bif (decide (bh<(List.length ab:Int))) then
   bif (aN bh (List.length ab)) then
    bif (aN bh (List.length ao)) then
     (uT ab fz eS) (List.set ao (Int.toNat bh) (List.getD ab (Int.toNat bh) (0:Int))) (IntKind.wrap .i64 (bh+(1:Int)))
    else none
   else none
  else
   eS ao
noncomputable def L98 (N:Nat) (a0:(List Int)) (kf:(List Int)→Option aa):Option aa:=
 bif (decide ((List.length a0:Int)=(List.length a0:Int))&&decide ((0:Int)≤(List.length a0:Int))&&decide ((List.length a0:Int)≤1099511627776)) then
  uT a0 N kf (List.replicate (Int.toNat (List.length a0:Int)) (0:Int)) (0:Int)
 else none
noncomputable def Z3 (N:Nat) (a0:QT) (kf:QT→Option aa):Option aa:=
 L98 N a0.2.2.2.2.2 (fun ayu=>
  kf (a0.1,(a0.2.1,(a0.2.2.1,(a0.2.2.2.1,(a0.2.2.2.2.1,ayu))))))
noncomputable def uU (N:Nat) (ab:(List QT)):Nat→((List QT)→Option aa)→(List QT)→Int→Option aa
 |0,_,_,_=>none
 |fz+1,ba,ao,bh=>
  bif (decide (bh<(List.length ab:Int))) then
   bif (aN bh (List.length ab)) then
    Z3 N (List.getD ab (Int.toNat bh) au) (fun iY=>
     bif (aN bh (List.length ao)) then
      (uU N ab fz ba) (List.set ao (Int.toNat bh) iY) (IntKind.wrap .i64 (bh+(1:Int)))
     else none)
   else none
  else
   ba ao
noncomputable def L95 (N:Nat) (a0:(List QT)) (kf:(List QT)→Option aa):Option aa:=
 bif (decide ((List.length a0:Int)=(List.length a0:Int))&&decide ((0:Int)≤(List.length a0:Int))&&decide ((List.length a0:Int)≤1099511627776)) then
  uU N a0 N kf (List.replicate (Int.toNat (List.length a0:Int)) ((0:Int),((0:Int),((0:Int),((0:Int),((0:Int),([]:(List Int)))))))) (0:Int)
 else none
noncomputable def Z4 (N:Nat) (a0:QJ) (kf:QJ→Option aa):Option aa:=
 L98 N a0.2.2 (fun qv=>
  kf (a0.1,(a0.2.1,qv)))
noncomputable def uV (N:Nat) (ab:(List QJ)):Nat→((List QJ)→Option aa)→(List QJ)→Int→Option aa
 |0,_,_,_=>none
 |fz+1,ba,ao,bh=>
  bif (decide (bh<(List.length ab:Int))) then
   bif (aN bh (List.length ab)) then
    Z4 N (List.getD ab (Int.toNat bh) b9) (fun iY=>
     bif (aN bh (List.length ao)) then
      (uV N ab fz ba) (List.set ao (Int.toNat bh) iY) (IntKind.wrap .i64 (bh+(1:Int)))
     else none)
   else none
  else
   ba ao
noncomputable def L96 (N:Nat) (a0:(List QJ)) (kf:(List QJ)→Option aa):Option aa:=
 bif (decide ((List.length a0:Int)=(List.length a0:Int))&&decide ((0:Int)≤(List.length a0:Int))&&decide ((List.length a0:Int)≤1099511627776)) then
  uV N a0 N kf (List.replicate (Int.toNat (List.length a0:Int)) ((0:Int),((0:Int),([]:(List Int))))) (0:Int)
 else none
noncomputable def Z5 (N:Nat) (a0:a7) (kf:a7→Option aa):Option aa:=
 kf (a0.1,a0.2)
noncomputable def uW (N:Nat) (ab:(List a7)):Nat→((List a7)→Option aa)→(List a7)→Int→Option aa
 |0,_,_,_=>none
 |fz+1,ba,ao,bh=>
  bif (decide (bh<(List.length ab:Int))) then
   bif (aN bh (List.length ab)) then
    Z5 N (List.getD ab (Int.toNat bh) cA) (fun iY=>
     bif (aN bh (List.length ao)) then
      (uW N ab fz ba) (List.set ao (Int.toNat bh) iY) (IntKind.wrap .i64 (bh+(1:Int)))
     else none)
   else none
  else
   ba ao
noncomputable def L97 (N:Nat) (a0:(List a7)) (kf:(List a7)→Option aa):Option aa:=
 bif (decide ((List.length a0:Int)=(List.length a0:Int))&&decide ((0:Int)≤(List.length a0:Int))&&decide ((List.length a0:Int)≤1099511627776)) then
  uW N a0 N kf (List.replicate (Int.toNat (List.length a0:Int)) ((0:Int),(0:Int))) (0:Int)
 else none
noncomputable def Z6 (N:Nat) (a0:QB) (kf:QB→Option aa):Option aa:=
 kf (a0.1,(a0.2.1,a0.2.2))
noncomputable def uX (N:Nat) (ab:(List QB)):Nat→((List QB)→Option aa)→(List QB)→Int→Option aa
 |0,_,_,_=>none
 |fz+1,ba,ao,bh=>
  bif (decide (bh<(List.length ab:Int))) then
   bif (aN bh (List.length ab)) then
    Z6 N (List.getD ab (Int.toNat bh) fp) (fun iY=>
     bif (aN bh (List.length ao)) then
      (uX N ab fz ba) (List.set ao (Int.toNat bh) iY) (IntKind.wrap .i64 (bh+(1:Int)))
     else none)
   else none
  else
   ba ao
noncomputable def L99 (N:Nat) (a0:(List QB)) (kf:(List QB)→Option aa):Option aa:=
 bif (decide ((List.length a0:Int)=(List.length a0:Int))&&decide ((0:Int)≤(List.length a0:Int))&&decide ((List.length a0:Int)≤1099511627776)) then
  uX N a0 N kf (List.replicate (Int.toNat (List.length a0:Int)) ((0:Int),((0:Int),(0:Int)))) (0:Int)
 else none
noncomputable def Z7 (N:Nat) (a0:QL) (kf:QL→Option aa):Option aa:=
 kf (a0.1,(a0.2.1,(a0.2.2.1,a0.2.2.2)))
noncomputable def pE (N:Nat) (ab:(List QL)):Nat→((List QL)→Option aa)→(List QL)→Int→Option aa
 |0,_,_,_=>none
 |fz+1,ba,ao,bh=>
  bif (decide (bh<(List.length ab:Int))) then
   bif (aN bh (List.length ab)) then
    Z7 N (List.getD ab (Int.toNat bh) tJ) (fun iY=>
     bif (aN bh (List.length ao)) then
      (pE N ab fz ba) (List.set ao (Int.toNat bh) iY) (IntKind.wrap .i64 (bh+(1:Int)))
     else none)
   else none
  else
   ba ao
noncomputable def aj3 (N:Nat) (a0:(List QL)) (kf:(List QL)→Option aa):Option aa:=
 bif (decide ((List.length a0:Int)=(List.length a0:Int))&&decide ((0:Int)≤(List.length a0:Int))&&decide ((List.length a0:Int)≤1099511627776)) then
  pE N a0 N kf (List.replicate (Int.toNat (List.length a0:Int)) ((0:Int),((0:Int),((0:Int),(0:Int))))) (0:Int)
 else none
noncomputable def L22 (N:Nat) (a0:QC) (kf:QC→Option aa):Option aa:=
 L95 N a0.1 (fun at4=>
  L96 N a0.2.1 (fun Ws=>
   L97 N a0.2.2.1 (fun EP=>
    L98 N a0.2.2.2.1 (fun ayv=>
     L99 N a0.2.2.2.2.1 (fun ad8=>
      aj3 N a0.2.2.2.2.2.1 (fun ayw=>
       kf (at4,(Ws,(EP,(ayv,(ad8,(ayw,a0.2.2.2.2.2.2))))))))))))
noncomputable def pF (ab:(List QT)):Nat→((List QT)→Option aa)→(List QT)→Int→Option aa
 |0,_,_,_=>none
 |fz+1,eS,ao,bh=>
  bif (decide (bh<(List.length ab:Int))) then
   bif (aN bh (List.length ab)) then
    bif (decide ((List.length ([]:(List Int))+List.length (List.getD ab (Int.toNat bh) au).2.2.2.2.2)*1≤4398046511104)) then
     bif (decide ((List.length ao+List.length [((List.getD ab (Int.toNat bh) au).1,((List.getD ab (Int.toNat bh) au).2.1,((List.getD ab (Int.toNat bh) au).2.2.1,((List.getD ab (Int.toNat bh) au).2.2.2.1,((List.getD ab (Int.toNat bh) au).2.2.2.2.1,(([]:(List Int))++(List.getD ab (Int.toNat bh) au).2.2.2.2.2))))))])*6≤4398046511104)) then
      (pF ab fz eS) (ao++[((List.getD ab (Int.toNat bh) au).1,((List.getD ab (Int.toNat bh) au).2.1,((List.getD ab (Int.toNat bh) au).2.2.1,((List.getD ab (Int.toNat bh) au).2.2.2.1,((List.getD ab (Int.toNat bh) au).2.2.2.2.1,(([]:(List Int))++(List.getD ab (Int.toNat bh) au).2.2.2.2.2))))))]) (IntKind.wrap .i64 (bh+(1:Int)))
     else none
    else none
   else none
  else
   eS ao
noncomputable def E4 (N:Nat) (a0:(List QT)) (kf:(List QT)→Option aa):Option aa:=
 pF a0 N kf ([]:(List QT)) (0:Int)
noncomputable def pG (ab:(List QJ)):Nat→((List QJ)→Option aa)→(List QJ)→Int→Option aa
 |0,_,_,_=>none
 |fz+1,eS,ao,bh=>
  bif (decide (bh<(List.length ab:Int))) then
   bif (aN bh (List.length ab)) then
    bif (decide ((List.length ([]:(List Int))+List.length (List.getD ab (Int.toNat bh) b9).2.2)*1≤4398046511104)) then
     bif (decide ((List.length ao+List.length [((List.getD ab (Int.toNat bh) b9).1,((List.getD ab (Int.toNat bh) b9).2.1,(([]:(List Int))++(List.getD ab (Int.toNat bh) b9).2.2)))])*3≤4398046511104)) then
      (pG ab fz eS) (ao++[((List.getD ab (Int.toNat bh) b9).1,((List.getD ab (Int.toNat bh) b9).2.1,(([]:(List Int))++(List.getD ab (Int.toNat bh) b9).2.2)))]) (IntKind.wrap .i64 (bh+(1:Int)))
     else none
    else none
   else none
  else
   eS ao
noncomputable def Sm (N:Nat) (a0:(List QJ)) (kf:(List QJ)→Option aa):Option aa:=
 pG a0 N kf ([]:(List QJ)) (0:Int)
noncomputable def Wx (N:Nat) (a0:QC) (kf:QC→Option aa):Option aa:=
 E4 N a0.1 (fun EK=>
  Sm N a0.2.1 (fun atI=>
   bif (decide ((List.length ([]:(List a7))+List.length a0.2.2.1)*2≤4398046511104)) then
    bif (decide ((List.length ([]:(List Int))+List.length a0.2.2.2.1)*1≤4398046511104)) then
     bif (decide ((List.length ([]:(List QB))+List.length a0.2.2.2.2.1)*3≤4398046511104)) then
      bif (decide ((List.length ([]:(List QL))+List.length a0.2.2.2.2.2.1)*4≤4398046511104)) then
       kf (EK,(atI,((([]:(List a7))++a0.2.2.1),((([]:(List Int))++a0.2.2.2.1),((([]:(List QB))++a0.2.2.2.2.1),((([]:(List QL))++a0.2.2.2.2.2.1),a0.2.2.2.2.2.2))))))
      else none
     else none
    else none
   else none))
noncomputable def gn (N:Nat) (a0:Int) (a1:Int) (a2:Int) (kf:Bool→Option aa):Option aa:=
 bif (decide (a0≥a1)) then
  kf (decide (a0≤a2))
 else
  kf false
noncomputable def pH (ab:(List QT)) (aj:Int):Nat→(Option aa)→(Int→Option aa)→Int→Option aa
 |0,_,_,_=>none
 |fz+1,bq,bB,ak=>
  bif (decide (ak<(List.length ab:Int))) then
   bif (aN ak (List.length ab)) then
    bif ((List.getD ab (Int.toNat ak) au).1==aj) then
     bB ak
    else
     (pH ab aj fz bq bB) (IntKind.wrap .i64 (ak+(1:Int)))
   else none
  else
   bq
noncomputable def uY (N:Nat) (a0:(List QT)) (a1:Int) (kf:Int→Option aa):Option aa:=
 pH a0 a1 N (kf (-1:Int)) kf (0:Int)
noncomputable def mW (ab:(List Int)) (aj:Int):Nat→(Int→Option aa)→Int→Int→Option aa
 |0,_,_,_=>none
 |mD+1,bI,ak,fK=>
  bif (decide (fK<(List.length ab:Int))) then
   bif (aN fK (List.length ab)) then
    bif ((List.getD ab (Int.toNat fK) (0:Int))==aj) then
     (mW ab aj mD bI) (IntKind.wrap .i64 (ak+(1:Int))) (IntKind.wrap .i64 (fK+(1:Int)))
    else
     (mW ab aj mD bI) ak (IntKind.wrap .i64 (fK+(1:Int)))
   else none
  else
   bI ak
noncomputable def Sn (N:Nat) (a0:(List Int)) (a1:Int) (kf:Int→Option aa):Option aa:=
 mW a0 a1 N kf (0:Int) (0:Int)
noncomputable def iZ (N:Nat) (xo:(List QT)) (HA:Int) (eQ:QT):Nat→(Option aa)→(Bool→Option aa)→Int→Option aa
 |0,_,_,_=>none
 |at2+1,sF,jZ,Wy=>
  bif (decide (Wy<(List.length eQ.2.2.2.2.2:Int))) then
   bif (aN Wy (List.length eQ.2.2.2.2.2)) then
    uY N xo (List.getD eQ.2.2.2.2.2 (Int.toNat Wy) (0:Int)) (fun jQ=>
     bif (decide (jQ<(0:Int))) then
      jZ false
     else
      bif (jQ==HA) then
       jZ false
      else
       bif (aN jQ (List.length xo)) then
        bif (aN jQ (List.length xo)) then
         Sn N (List.getD xo (Int.toNat jQ) au).2.2.2.2.2 eQ.1 (fun IZ=>
          Sn N eQ.2.2.2.2.2 (List.getD xo (Int.toNat jQ) au).1 (fun I0=>
           bif (IZ != I0) then
            jZ false
           else
            (iZ N xo HA eQ at2 sF jZ) (IntKind.wrap .i64 (Wy+(1:Int)))))
        else none
       else none)
   else none
  else
   sF
noncomputable def mX (N:Nat) (ab:(List QT)):Nat→(Option aa)→(Bool→Option aa)→Int→Option aa
 |0,_,_,_=>none
 |n_3+1,pI,cU,ao=>
  bif (decide (ao<(List.length ab:Int))) then
   bif (aN ao (List.length ab)) then
    gn N (List.getD ab (Int.toNat ao) au).1 (1:Int) (99:Int) (fun EV=>
     bif (!EV) then
      cU false
     else
      gn N (List.getD ab (Int.toNat ao) au).2.1 (1:Int) (99:Int) (fun E5=>
       bif (!E5) then
        cU false
       else
        gn N (List.getD ab (Int.toNat ao) au).2.2.1 (0:Int) (List.length (List.getD ab (Int.toNat ao) au).2.2.2.2.2:Int) (fun Nk=>
         bif (!Nk) then
          cU false
         else
          gn N (List.getD ab (Int.toNat ao) au).2.2.2.2.1 (0:Int) (List.length (List.getD ab (Int.toNat ao) au).2.2.2.2.2:Int) (fun ad9=>
           bif (!ad9) then
            cU false
           else
            gn N (List.getD ab (Int.toNat ao) au).2.2.2.1 (0:Int) (100000:Int) (fun ad'=>
             bif (!ad') then
              cU false
             else
              bif (decide ((List.length (List.getD ab (Int.toNat ao) au).2.2.2.2.2:Int)>(20:Int))) then
               cU false
              else
               bif (decide (ao>(0:Int))) then
                bif (aN (IntKind.wrap .i64 (ao - (1:Int))) (List.length ab)) then
                 bif (decide ((List.getD ab (Int.toNat (IntKind.wrap .i64 (ao - (1:Int)))) au).1≥(List.getD ab (Int.toNat ao) au).1)) then
                  cU false
                 else
                  iZ N ab ao (List.getD ab (Int.toNat ao) au) N ((mX N ab n_3 pI cU) (IntKind.wrap .i64 (ao+(1:Int)))) cU (0:Int)
                else none
               else
                iZ N ab ao (List.getD ab (Int.toNat ao) au) N ((mX N ab n_3 pI cU) (IntKind.wrap .i64 (ao+(1:Int)))) cU (0:Int))))))
   else none
  else
   pI
noncomputable def tu (N:Nat) (a0:(List QT)) (kf:Bool→Option aa):Option aa:=
 mX N a0 N (kf (decide ((List.length a0:Int)≤(10:Int)))) kf (0:Int)
noncomputable def aea (N:Nat) (a0:QT) (a1:QT) (kf:Bool→Option aa):Option aa:=
 bif (a0.2.2.1 != a1.2.2.1) then
  kf (decide (a0.2.2.1>a1.2.2.1))
 else
  bif (decide (a0.2.2.2.1>a1.2.2.2.1)) then
   kf true
  else
   bif (a0.2.2.2.1==a1.2.2.2.1) then
    kf (decide (a0.1<a1.1))
   else
    kf false
noncomputable def ky (mY:(List QT)):Nat→((List Int)→Option aa)→(List Int)→Int→Option aa
 |0,_,_,_=>none
 |azP+1,od,kY,Nv=>
  bif (decide (Nv<(List.length mY:Int))) then
   bif (aN Nv (List.length mY)) then
    bif (decide ((List.length kY+List.length [(List.getD mY (Int.toNat Nv) au).1])*1≤4398046511104)) then
     (ky mY azP od) (kY++[(List.getD mY (Int.toNat Nv) au).1]) (IntKind.wrap .i64 (Nv+(1:Int)))
    else none
   else none
  else
   od kY
noncomputable def pJ (N:Nat) (eG:(List QT)) (ja:(List QT)) (xp:Int):Nat→(Int→Option aa)→Int→Option aa
 |0,_,_=>none
 |ZR+1,I1,Z8=>
  bif (decide (Z8>(0:Int))) then
   bif (aN xp (List.length eG)) then
    bif (aN (IntKind.wrap .i64 (Z8 - (1:Int))) (List.length ja)) then
     aea N (List.getD eG (Int.toNat xp) au) (List.getD ja (Int.toNat (IntKind.wrap .i64 (Z8 - (1:Int)))) au) (fun at5=>
      bif at5 then
       (pJ N eG ja xp ZR I1) (IntKind.wrap .i64 (Z8 - (1:Int)))
      else
       I1 Z8)
    else none
   else none
  else
   I1 Z8
noncomputable def pK (N:Nat) (ab:(List QT)):Nat→((List QT)→Option aa)→(List QT)→Int→Option aa
 |0,_,_,_=>none
 |fz+1,mZ,ao,bh=>
  bif (decide (bh<(List.length ab:Int))) then
   tu N ab (fun aeb=>
    bif aeb then
     pJ N ab ao bh N (fun gP=>
      bif (decide ((0:Int)≤(0:Int))&&decide ((0:Int)≤gP)&&decide (gP≤(List.length ao:Int))) then
       bif (aN bh (List.length ab)) then
        bif (decide ((0:Int)≤gP)&&decide (gP≤(List.length ao:Int))&&decide ((List.length ao:Int)≤(List.length ao:Int))) then
         bif (decide ((List.length ([]:(List QT))+List.length (List.drop 0 (List.take (Int.toNat gP) ao)))*6≤4398046511104)) then
          bif (decide ((List.length (([]:(List QT))++(List.drop 0 (List.take (Int.toNat gP) ao)))+List.length [(List.getD ab (Int.toNat bh) au)])*6≤4398046511104)) then
           bif (decide ((List.length ((([]:(List QT))++(List.drop 0 (List.take (Int.toNat gP) ao)))++[(List.getD ab (Int.toNat bh) au)])+List.length (List.drop (Int.toNat gP) (List.take (Int.toNat (List.length ao:Int)) ao)))*6≤4398046511104)) then
            (pK N ab fz mZ) (((([]:(List QT))++(List.drop 0 (List.take (Int.toNat gP) ao)))++[(List.getD ab (Int.toNat bh) au)])++(List.drop (Int.toNat gP) (List.take (Int.toNat (List.length ao:Int)) ao))) (IntKind.wrap .i64 (bh+(1:Int)))
           else none
          else none
         else none
        else none
       else none
      else none) (List.length ao:Int)
    else
     mZ ao)
  else
   mZ ao
noncomputable def aj4 (N:Nat) (a0:(List QT)) (kf:(List Int)→Option aa):Option aa:=
 pK N a0 N (fun ayx=>
  ky ayx N kf ([]:(List Int)) (0:Int)) ([]:(List QT)) (0:Int)
noncomputable def pL (ab:(List Int)) (aj:Int):Nat→(Option aa)→(Bool→Option aa)→Int→Option aa
 |0,_,_,_=>none
 |fz+1,bq,bB,ak=>
  bif (decide (ak<(List.length ab:Int))) then
   bif (aN ak (List.length ab)) then
    bif ((List.getD ab (Int.toNat ak) (0:Int))==aj) then
     bB true
    else
     (pL ab aj fz bq bB) (IntKind.wrap .i64 (ak+(1:Int)))
   else none
  else
   bq
noncomputable def uZ (N:Nat) (a0:(List Int)) (a1:Int) (kf:Bool→Option aa):Option aa:=
 pL a0 a1 N (kf false) kf (0:Int)
noncomputable def aj5 (N:Nat) (a0:(List QT)) (a1:Int) (a2:Int) (kf:Bool→Option aa):Option aa:=
 uY N a0 a1 (fun dG=>
  bif (decide (dG≥(0:Int))) then
   bif (aN dG (List.length a0)) then
    uZ N (List.getD a0 (Int.toNat dG) au).2.2.2.2.2 a2 kf
   else none
  else
   kf false)
noncomputable def Sp (N:Nat) (a0:(List QT)) (a1:Int) (a2:Int) (kf:Bool→Option aa):Option aa:=
 uY N a0 a1 (fun cH=>
  uY N a0 a2 (fun cj=>
   tu N a0 (fun qu=>
    bif qu then
     bif (decide (cH≥(0:Int))) then
      bif (decide (cj≥(0:Int))) then
       bif (cH != cj) then
        bif (aN cH (List.length a0)) then
         bif (aN cj (List.length a0)) then
          bif ((List.getD a0 (Int.toNat cH) au).2.1 != (List.getD a0 (Int.toNat cj) au).2.1) then
           aj5 N a0 a1 a2 (fun adO=>
            kf (!adO))
          else
           kf false
         else none
        else none
       else
        kf false
      else
       kf false
     else
      kf false
    else
     kf false)))
noncomputable def aj6 (N:Nat) (a0:(List QT)) (a1:Int) (a2:Int) (kf:a7→Option aa):Option aa:=
 uY N a0 a1 (fun cH=>
  uY N a0 a2 (fun cj=>
   tu N a0 (fun qu=>
    bif (!qu) then
     kf ((0:Int),(0:Int))
    else
     bif (decide (cH<(0:Int))) then
      kf ((0:Int),(0:Int))
     else
      bif (decide (cj<(0:Int))) then
       kf ((0:Int),(0:Int))
      else
       bif (cH==cj) then
        kf ((0:Int),(0:Int))
       else
        bif (aN cj (List.length a0)) then
         bif (aN cH (List.length a0)) then
          bif (decide ((List.getD a0 (Int.toNat cj) au).2.2.2.2.1<(List.getD a0 (Int.toNat cH) au).2.2.2.2.1)) then
           kf (a2,a1)
          else
           bif (aN cj (List.length a0)) then
            bif (aN cH (List.length a0)) then
             bif ((List.getD a0 (Int.toNat cj) au).2.2.2.2.1==(List.getD a0 (Int.toNat cH) au).2.2.2.2.1) then
              bif (aN cj (List.length a0)) then
               bif (aN cH (List.length a0)) then
                aea N (List.getD a0 (Int.toNat cj) au) (List.getD a0 (Int.toNat cH) au) (fun ayy=>
                 bif ayy then
                  kf (a2,a1)
                 else
                  kf (a1,a2))
               else none
              else none
             else
              kf (a1,a2)
            else none
           else none
         else none
        else none)))
noncomputable def pM (N:Nat) (self:(List QT)→(List Int)→((List a7)→Bool→Option aa)→Option aa) (ab:(List QT)) (aj:(List Int)):Nat→(Option aa)→((List a7)→Bool→Option aa)→Int→Option aa
 |0,_,_,_=>none
 |fz+1,Sq,I2,iE=>
  bif (decide (iE<(List.length aj:Int))) then
   bif (aN (0:Int) (List.length aj)) then
    bif (aN iE (List.length aj)) then
     Sp N ab (List.getD aj (Int.toNat (0:Int)) (0:Int)) (List.getD aj (Int.toNat iE) (0:Int)) (fun adW=>
      bif (!adW) then
       (pM N self ab aj fz Sq I2) (IntKind.wrap .i64 (iE+(1:Int)))
      else
       bif (decide ((0:Int)≤(1:Int))&&decide ((1:Int)≤iE)&&decide (iE≤(List.length aj:Int))) then
        bif (decide ((0:Int)≤(IntKind.wrap .i64 (iE+(1:Int))))&&decide ((IntKind.wrap .i64 (iE+(1:Int)))≤(List.length aj:Int))&&decide ((List.length aj:Int)≤(List.length aj:Int))) then
         bif (decide ((List.length ([]:(List Int))+List.length (List.drop (Int.toNat (1:Int)) (List.take (Int.toNat iE) aj)))*1≤4398046511104)) then
          bif (decide ((List.length (([]:(List Int))++(List.drop (Int.toNat (1:Int)) (List.take (Int.toNat iE) aj)))+List.length (List.drop (Int.toNat (IntKind.wrap .i64 (iE+(1:Int)))) (List.take (Int.toNat (List.length aj:Int)) aj)))*1≤4398046511104)) then
           self ab ((([]:(List Int))++(List.drop (Int.toNat (1:Int)) (List.take (Int.toNat iE) aj)))++(List.drop (Int.toNat (IntKind.wrap .i64 (iE+(1:Int)))) (List.take (Int.toNat (List.length aj:Int)) aj))) (fun ar1 ayz=>
            bif ayz then
             bif (aN (0:Int) (List.length aj)) then
              bif (aN iE (List.length aj)) then
               aj6 N ab (List.getD aj (Int.toNat (0:Int)) (0:Int)) (List.getD aj (Int.toNat iE) (0:Int)) (fun Hy=>
                bif (decide ((List.length [Hy]+List.length ar1)*2≤4398046511104)) then
                 I2 ([Hy]++ar1) true
                else none)
              else none
             else none
            else
             (pM N self ab aj fz Sq I2) (IntKind.wrap .i64 (iE+(1:Int))))
          else none
         else none
        else none
       else none)
    else none
   else none
  else
   Sq
noncomputable def Sr (self:(List QT)→(List Int)→((List a7)→Bool→Option aa)→Option aa) (N:Nat) (a0:(List QT)) (a1:(List Int)) (kf:(List a7)→Bool→Option aa):Option aa:=
 bif ((List.length a1:Int)==(0:Int)) then
  kf ([]:(List a7)) true
 else
  pM N self a0 a1 N (kf ([]:(List a7)) false) kf (1:Int)
noncomputable def Ss:Nat→(List QT)→(List Int)→((List a7)→Bool→Option aa)→Option aa
 |0,_,_,_=>none
 |N+1,a0,a1,kf=>Sr (Ss N) N a0 a1 kf
noncomputable def S91 (N:Nat) (a0:(List QT)) (kf:(List a7)→Bool→Option aa):Option aa:=
 tu N a0 (fun EK=>
  bif (!EK) then
   kf ([]:(List a7)) false
  else
   bif ((Int.tmod (List.length a0:Int) (2:Int))==(1:Int)) then
    kf ([]:(List a7)) false
   else
    aj4 N a0 (fun oa=>
     Ss N a0 oa kf))
noncomputable def gX (N:Nat) (eG:(List QJ)) (ja:Int):Nat→(Option aa)→(Bool→Option aa)→Int→Option aa
 |0,_,_,_=>none
 |n_9+1,pN,lq,xp=>
  bif (aN ja (List.length eG)) then
   bif (decide (xp<(List.length (List.getD eG (Int.toNat ja) b9).2.2:Int))) then
    bif (aN ja (List.length eG)) then
     bif (aN xp (List.length (List.getD eG (Int.toNat ja) b9).2.2)) then
      gn N (List.getD (List.getD eG (Int.toNat ja) b9).2.2 (Int.toNat xp) (0:Int)) (1:Int) (99:Int) (fun Su=>
       bif (!Su) then
        lq false
       else
        bif (decide (xp>(0:Int))) then
         bif (aN ja (List.length eG)) then
          bif (aN (IntKind.wrap .i64 (xp - (1:Int))) (List.length (List.getD eG (Int.toNat ja) b9).2.2)) then
           bif (aN ja (List.length eG)) then
            bif (aN xp (List.length (List.getD eG (Int.toNat ja) b9).2.2)) then
             bif (decide ((List.getD (List.getD eG (Int.toNat ja) b9).2.2 (Int.toNat (IntKind.wrap .i64 (xp - (1:Int)))) (0:Int))≥(List.getD (List.getD eG (Int.toNat ja) b9).2.2 (Int.toNat xp) (0:Int)))) then
              lq false
             else
              (gX N eG ja n_9 pN lq) (IntKind.wrap .i64 (xp+(1:Int)))
            else none
           else none
          else none
         else none
        else
         (gX N eG ja n_9 pN lq) (IntKind.wrap .i64 (xp+(1:Int))))
     else none
    else none
   else
    pN
  else none
noncomputable def m5 (N:Nat) (ab:(List QJ)):Nat→(Option aa)→(Bool→Option aa)→Int→Option aa
 |0,_,_,_=>none
 |n_3+1,pO,fk,ao=>
  bif (decide (ao<(List.length ab:Int))) then
   bif (aN ao (List.length ab)) then
    gn N (List.getD ab (Int.toNat ao) b9).1 (1:Int) (99:Int) (fun Na=>
     bif (!Na) then
      fk false
     else
      bif (aN ao (List.length ab)) then
       gn N (List.getD ab (Int.toNat ao) b9).2.1 (1:Int) (99:Int) (fun E5=>
        bif (!E5) then
         fk false
        else
         bif (decide (ao>(0:Int))) then
          bif (aN (IntKind.wrap .i64 (ao - (1:Int))) (List.length ab)) then
           bif (aN ao (List.length ab)) then
            bif (decide ((List.getD ab (Int.toNat (IntKind.wrap .i64 (ao - (1:Int)))) b9).1≥(List.getD ab (Int.toNat ao) b9).1)) then
             fk false
            else
             gX N ab ao N ((m5 N ab n_3 pO fk) (IntKind.wrap .i64 (ao+(1:Int)))) fk (0:Int)
           else none
          else none
         else
          gX N ab ao N ((m5 N ab n_3 pO fk) (IntKind.wrap .i64 (ao+(1:Int)))) fk (0:Int))
      else none)
   else none
  else
   pO
noncomputable def Z9 (N:Nat) (a0:(List QJ)) (kf:Bool→Option aa):Option aa:=
 m5 N a0 N (kf (decide ((List.length a0:Int)≤(10:Int)))) kf (0:Int)
noncomputable def Z' (N:Nat) (a0:(List QT)) (a1:QJ) (a2:a7) (kf:Bool→Option aa):Option aa:=
 uY N a0 a2.1 (fun qv=>
  uY N a0 a2.2 (fun oa=>
   bif (decide (qv≥(0:Int))) then
    bif (decide (oa≥(0:Int))) then
     bif (aN qv (List.length a0)) then
      bif ((List.getD a0 (Int.toNat qv) au).2.1 != a1.2.1) then
       bif (aN oa (List.length a0)) then
        bif ((List.getD a0 (Int.toNat oa) au).2.1 != a1.2.1) then
         uZ N a1.2.2 a2.1 (fun ayA=>
          bif (!ayA) then
           uZ N a1.2.2 a2.2 (fun aec=>
            kf (!aec))
          else
           kf false)
        else
         kf false
       else none
      else
       kf false
     else none
    else
     kf false
   else
    kf false))
noncomputable def m6 (N:Nat) (self:(List QT)→(List QJ)→(List a7)→(List Int)→((List Int)→Bool→Option aa)→Option aa) (ab:(List QT)) (aj:(List QJ)) (fy:(List a7)) (cI:(List Int)):Nat→(Option aa)→((List Int)→Bool→Option aa)→Int→Option aa
 |0,_,_,_=>none
 |Wp+1,jc,fm,gq=>
  bif (decide (gq<(List.length aj:Int))) then
   bif (aN gq (List.length aj)) then
    uZ N cI (List.getD aj (Int.toNat gq) b9).1 (fun ayB=>
     bif ayB then
      (m6 N self ab aj fy cI Wp jc fm) (IntKind.wrap .i64 (gq+(1:Int)))
     else
      bif (aN gq (List.length aj)) then
       bif (aN (0:Int) (List.length fy)) then
        Z' N ab (List.getD aj (Int.toNat gq) b9) (List.getD fy (Int.toNat (0:Int)) cA) (fun rz=>
         bif (!rz) then
          (m6 N self ab aj fy cI Wp jc fm) (IntKind.wrap .i64 (gq+(1:Int)))
         else
          bif (decide ((0:Int)≤(1:Int))&&decide ((1:Int)≤(List.length fy:Int))&&decide ((List.length fy:Int)≤(List.length fy:Int))) then
           bif (aN gq (List.length aj)) then
            bif (decide ((List.length ([]:(List Int))+List.length cI)*1≤4398046511104)) then
             bif (decide ((List.length (([]:(List Int))++cI)+List.length [(List.getD aj (Int.toNat gq) b9).1])*1≤4398046511104)) then
              self ab aj (List.drop (Int.toNat (1:Int)) (List.take (Int.toNat (List.length fy:Int)) fy)) ((([]:(List Int))++cI)++[(List.getD aj (Int.toNat gq) b9).1]) (fun ar2 at6=>
               bif at6 then
                bif (aN gq (List.length aj)) then
                 bif (decide ((List.length [(List.getD aj (Int.toNat gq) b9).1]+List.length ar2)*1≤4398046511104)) then
                  fm ([(List.getD aj (Int.toNat gq) b9).1]++ar2) true
                 else none
                else none
               else
                (m6 N self ab aj fy cI Wp jc fm) (IntKind.wrap .i64 (gq+(1:Int))))
             else none
            else none
           else none
          else none)
       else none
      else none)
   else none
  else
   jc
noncomputable def Sv (self:(List QT)→(List QJ)→(List a7)→(List Int)→((List Int)→Bool→Option aa)→Option aa) (N:Nat) (a0:(List QT)) (a1:(List QJ)) (a2:(List a7)) (a3:(List Int)) (kf:(List Int)→Bool→Option aa):Option aa:=
 bif ((List.length a2:Int)==(0:Int)) then
  kf ([]:(List Int)) true
 else
  m6 N self a0 a1 a2 a3 N (kf ([]:(List Int)) false) kf (0:Int)
noncomputable def Sw:Nat→(List QT)→(List QJ)→(List a7)→(List Int)→((List Int)→Bool→Option aa)→Option aa
 |0,_,_,_,_,_=>none
 |N+1,a0,a1,a2,a3,kf=>Sv (Sw N) N a0 a1 a2 a3 kf
noncomputable def S92 (N:Nat) (a0:(List QT)) (a1:(List QJ)) (a2:(List a7)) (kf:(List Int)→Bool→Option aa):Option aa:=
 Z9 N a1 (fun kt=>
  bif (!kt) then
   kf ([]:(List Int)) false
  else
   tu N a0 (fun fQ=>
    bif (!fQ) then
     kf ([]:(List Int)) false
    else
     Sw N a0 a1 a2 ([]:(List Int)) kf))
noncomputable def S94 (N:Nat) (a0:QC) (kf:Bool→Option aa):Option aa:=
 kf (decide ((List.length a0.2.2.1:Int)>(0:Int)))
noncomputable def at7 (N:Nat) (a0:(List QL)) (kf:Int→Option aa):Option aa:=
 bif ((List.length a0:Int)==(0:Int)) then
  kf (0:Int)
 else
  bif (aN (IntKind.wrap .i64 ((List.length a0:Int) - (1:Int))) (List.length a0)) then
   kf (List.getD a0 (Int.toNat (IntKind.wrap .i64 ((List.length a0:Int) - (1:Int)))) tJ).2.2.2
  else none
noncomputable def aed (N:Nat) (a0:Int) (a1:Int) (kf:Int→Option aa):Option aa:=
 gn N a1 (1:Int) (1000000000000:Int) (fun at4=>
  bif (!at4) then
   kf (0:Int)
  else
   bif (!decide (a1=0)) then
    bif (!decide (a1=0)) then
     kf (Int.tmod (IntKind.wrap .i64 ((Int.tmod a0 a1)+a1)) a1)
    else none
   else none)
noncomputable def pP (N:Nat) (ab:(List Int)):Nat→(Int→Option aa)→Int→Int→Option aa
 |0,_,_,_=>none
 |fz+1,ba,ao,bh=>
  bif (decide (bh<(List.length ab:Int))) then
   bif (aN bh (List.length ab)) then
    aed N (List.getD ab (Int.toNat bh) (0:Int)) (2147483647:Int) (fun aee=>
     (pP N ab fz ba) (Int.tmod (IntKind.wrap .i64 ((IntKind.wrap .i64 ((IntKind.wrap .i64 (ao*(1000003:Int)))+aee))+(13:Int))) (2147483647:Int)) (IntKind.wrap .i64 (bh+(1:Int))))
   else none
  else
   ba ao
noncomputable def aj7 (N:Nat) (a0:(List Int)) (kf:Int→Option aa):Option aa:=
 pP N a0 N kf (11:Int) (0:Int)
noncomputable def Sx (N:Nat) (a0:Int) (a1:QL) (kf:Int→Option aa):Option aa:=
 aj7 N [a0,a1.1,a1.2.1,a1.2.2.1] kf
noncomputable def pQ (N:Nat) (ab:(List QL)):Nat→(Option aa)→(Bool→Option aa)→Int→Int→Option aa
 |0,_,_,_,_=>none
 |fz+1,cS,fi,ao,bh=>
  bif (decide (bh<(List.length ab:Int))) then
   bif (decide ((List.length ab:Int)≤(200:Int))) then
    bif (aN bh (List.length ab)) then
     Sx N ao (List.getD ab (Int.toNat bh) tJ) (fun gv=>
      bif ((List.getD ab (Int.toNat bh) tJ).1 != (IntKind.wrap .i64 (bh+(1:Int)))) then
       fi false
      else
       gn N (List.getD ab (Int.toNat bh) tJ).2.1 (1:Int) (9:Int) (fun Nw=>
        bif (!Nw) then
         fi false
        else
         gn N (List.getD ab (Int.toNat bh) tJ).2.2.1 (0:Int) (99:Int) (fun Nx=>
          bif (!Nx) then
           fi false
          else
           bif ((List.getD ab (Int.toNat bh) tJ).2.2.2 != gv) then
            fi false
           else
            (pQ N ab fz cS fi) gv (IntKind.wrap .i64 (bh+(1:Int))))))
    else none
   else
    cS
  else
   cS
noncomputable def aef (N:Nat) (a0:(List QL)) (kf:Bool→Option aa):Option aa:=
 pQ N a0 N (kf (decide ((List.length a0:Int)≤(200:Int)))) kf (0:Int) (0:Int)
noncomputable def aj8 (N:Nat) (a0:(List QL)) (a1:Int) (a2:Int) (kf:(List QL)→Bool→Option aa):Option aa:=
 at7 N a0 (fun adG=>
  Sx N adG ((IntKind.wrap .i64 ((List.length a0:Int)+(1:Int))),(a1,(a2,(0:Int)))) (fun xl=>
   bif (decide ((List.length ([]:(List QL))+List.length a0)*4≤4398046511104)) then
    bif (decide ((List.length (([]:(List QL))++a0)+List.length [((IntKind.wrap .i64 ((List.length a0:Int)+(1:Int))),(a1,(a2,xl)))])*4≤4398046511104)) then
     aef N ((([]:(List QL))++a0)++[((IntKind.wrap .i64 ((List.length a0:Int)+(1:Int))),(a1,(a2,xl)))]) (fun ad7=>
      bif (!ad7) then
       bif (decide ((List.length ([]:(List QL))+List.length a0)*4≤4398046511104)) then
        kf (([]:(List QL))++a0) false
       else none
      else
       kf ((([]:(List QL))++a0)++[((IntKind.wrap .i64 ((List.length a0:Int)+(1:Int))),(a1,(a2,xl)))]) true)
    else none
   else none))
noncomputable def pR (N:Nat) (ab:(List QT)):Nat→(Int→Option aa)→Int→Int→Option aa
 |0,_,_,_=>none
 |fz+1,ba,ao,bh=>
  bif (decide (bh<(List.length ab:Int))) then
   tu N ab (fun aeg=>
    bif aeg then
     bif (aN bh (List.length ab)) then
      (pR N ab fz ba) (IntKind.wrap .i64 (ao+(List.getD ab (Int.toNat bh) au).2.2.1)) (IntKind.wrap .i64 (bh+(1:Int)))
     else none
    else
     ba ao)
  else
   ba ao
noncomputable def aj9 (N:Nat) (a0:(List QT)) (kf:Int→Option aa):Option aa:=
 pR N a0 N kf (0:Int) (0:Int)
noncomputable def pS (N:Nat) (ab:(List QT)) (aj:(List a7)):Nat→((List Int)→Option aa)→(Bool→Option aa)→(List Int)→Int→Option aa
 |0,_,_,_,_=>none
 |mD+1,cl,j0,ak,fK=>
  bif (decide (fK<(List.length aj:Int))) then
   bif (aN fK (List.length aj)) then
    bif (aN fK (List.length aj)) then
     Sp N ab (List.getD aj (Int.toNat fK) cA).1 (List.getD aj (Int.toNat fK) cA).2 (fun Ny=>
      bif (!Ny) then
       j0 false
      else
       bif (aN fK (List.length aj)) then
        uZ N ak (List.getD aj (Int.toNat fK) cA).1 (fun E6=>
         bif E6 then
          j0 false
         else
          bif (aN fK (List.length aj)) then
           uZ N ak (List.getD aj (Int.toNat fK) cA).2 (fun Nz=>
            bif Nz then
             j0 false
            else
             bif (aN fK (List.length aj)) then
              bif (aN fK (List.length aj)) then
               bif (decide ((List.length ak+List.length [(List.getD aj (Int.toNat fK) cA).1,(List.getD aj (Int.toNat fK) cA).2])*1≤4398046511104)) then
                (pS N ab aj mD cl j0) (ak++[(List.getD aj (Int.toNat fK) cA).1,(List.getD aj (Int.toNat fK) cA).2]) (IntKind.wrap .i64 (fK+(1:Int)))
               else none
              else none
             else none)
          else none)
       else none)
    else none
   else none
  else
   cl ak
noncomputable def aj' (N:Nat) (a0:(List QT)) (a1:(List a7)) (kf:Bool→Option aa):Option aa:=
 pS N a0 a1 N (fun ayC=>
  tu N a0 (fun at8=>
   bif at8 then
    kf ((List.length ayC:Int)==(List.length a0:Int))
   else
    kf false)) kf ([]:(List Int)) (0:Int)
noncomputable def pT (ab:(List QJ)) (aj:Int):Nat→(Option aa)→(Int→Option aa)→Int→Option aa
 |0,_,_,_=>none
 |fz+1,bq,bB,ak=>
  bif (decide (ak<(List.length ab:Int))) then
   bif (aN ak (List.length ab)) then
    bif ((List.getD ab (Int.toNat ak) b9).1==aj) then
     bB ak
    else
     (pT ab aj fz bq bB) (IntKind.wrap .i64 (ak+(1:Int)))
   else none
  else
   bq
noncomputable def E7 (N:Nat) (a0:(List QJ)) (a1:Int) (kf:Int→Option aa):Option aa:=
 pT a0 a1 N (kf (-1:Int)) kf (0:Int)
noncomputable def pU (N:Nat) (Au:(List QT)) (ju:(List QJ)) (jM:(List a7)) (iD:(List Int)):Nat→(Option aa)→(Bool→Option aa)→Int→Option aa
 |0,_,_,_=>none
 |n_7+1,jc,fm,E8=>
  bif (decide (E8<(List.length jM:Int))) then
   bif (aN E8 (List.length iD)) then
    E7 N ju (List.getD iD (Int.toNat E8) (0:Int)) (fun E9=>
     bif (decide (E9<(0:Int))) then
      fm false
     else
      bif (decide ((0:Int)≤(0:Int))&&decide ((0:Int)≤E8)&&decide (E8≤(List.length iD:Int))) then
       bif (aN E8 (List.length iD)) then
        uZ N (List.drop (Int.toNat (0:Int)) (List.take (Int.toNat E8) iD)) (List.getD iD (Int.toNat E8) (0:Int)) (fun aeh=>
         bif aeh then
          fm false
         else
          bif (aN E9 (List.length ju)) then
           bif (aN E8 (List.length jM)) then
            Z' N Au (List.getD ju (Int.toNat E9) b9) (List.getD jM (Int.toNat E8) cA) (fun Sy=>
             bif (!Sy) then
              fm false
             else
              (pU N Au ju jM iD n_7 jc fm) (IntKind.wrap .i64 (E8+(1:Int))))
           else none
          else none)
       else none
      else none)
   else none
  else
   jc
noncomputable def aka (N:Nat) (a0:(List QT)) (a1:(List QJ)) (a2:(List a7)) (a3:(List Int)) (kf:Bool→Option aa):Option aa:=
 bif ((List.length a3:Int) != (List.length a2:Int)) then
  kf false
 else
  Z9 N a1 (fun aD=>
   bif (!aD) then
    kf false
   else
    pU N a0 a1 a2 a3 N (kf true) kf (0:Int))
noncomputable def NA (N:Nat) (a0:QB) (kf:Bool→Option aa):Option aa:=
 gn N a0.1 (1:Int) (99:Int) (fun EK=>
  bif EK then
   gn N a0.2.1 (0:Int) (100:Int) (fun atN=>
    bif atN then
     gn N a0.2.2 (0:Int) (100:Int) (fun EP=>
      bif EP then
       kf (a0.2.1 != a0.2.2)
      else
       kf false)
    else
     kf false)
  else
   kf false)
noncomputable def m7 (N:Nat) (lr:QC) (Fa:QB):Nat→(Option aa)→(Bool→Option aa)→Int→Option aa
 |0,_,_,_=>none
 |Sc+1,pV,lu,oe=>
  bif (decide (oe<(List.length lr.2.2.2.2.1:Int))) then
   bif (aN oe (List.length lr.2.2.2.2.1)) then
    bif (!((decide (((List.getD lr.2.2.2.2.1 (Int.toNat oe) fp).1:Int)=Fa.1))&&((decide (((List.getD lr.2.2.2.2.1 (Int.toNat oe) fp).2.1:Int)=Fa.2.1))&&(decide (((List.getD lr.2.2.2.2.1 (Int.toNat oe) fp).2.2:Int)=Fa.2.2))))) then
     bif (aN oe (List.length lr.2.2.2.2.1)) then
      NA N (List.getD lr.2.2.2.2.1 (Int.toNat oe) fp) (fun Sz=>
       bif (!Sz) then
        lu false
       else
        bif (aN oe (List.length lr.2.2.2.2.1)) then
         bif (aN oe (List.length lr.2.2.2.1)) then
          bif ((List.getD lr.2.2.2.2.1 (Int.toNat oe) fp).1 != (List.getD lr.2.2.2.1 (Int.toNat oe) (0:Int))) then
           lu false
          else
           (m7 N lr Fa Sc pV lu) (IntKind.wrap .i64 (oe+(1:Int)))
         else none
        else none)
     else none
    else
     (m7 N lr Fa Sc pV lu) (IntKind.wrap .i64 (oe+(1:Int)))
   else none
  else
   pV
noncomputable def Dj (N:Nat) (a0:QC) (kf:Bool→Option aa):Option aa:=
 m7 N a0 ((0:Int),((0:Int),(0:Int))) N (kf true) kf (0:Int)
noncomputable def SA (N:Nat) (a0:QC) (kf:Bool→Option aa):Option aa:=
 tu N a0.1 (fun EJ=>
  bif (!EJ) then
   kf false
  else
   Z9 N a0.2.1 (fun Ni=>
    bif (!Ni) then
     kf false
    else
     aef N a0.2.2.2.2.2.1 (fun ER=>
      bif (!ER) then
       kf false
      else
       bif ((List.length a0.2.2.2.1:Int) != (List.length a0.2.2.1:Int)) then
        kf false
       else
        bif ((List.length a0.2.2.2.2.1:Int) != (List.length a0.2.2.1:Int)) then
         kf false
        else
         gn N a0.2.2.2.2.2.2 (0:Int) (1000:Int) (fun ayD=>
          bif (!ayD) then
           kf false
          else
           aj9 N a0.1 (fun ayE=>
            bif (ayE != a0.2.2.2.2.2.2) then
             kf false
            else
             bif (decide ((List.length a0.2.2.1:Int)>(0:Int))) then
              aj' N a0.1 a0.2.2.1 (fun ayF=>
               bif (!ayF) then
                kf false
               else
                aka N a0.1 a0.2.1 a0.2.2.1 a0.2.2.2.1 (fun ayG=>
                 bif (!ayG) then
                  kf false
                 else
                  Dj N a0 kf))
             else
              Dj N a0 kf)))))
noncomputable def S93 (N:Nat) (a0:QC) (a1:QC) (a2:Bool) (a3:Int) (a4:Int) (kf:QC→Bool→Option aa):Option aa:=
 aj8 N a0.2.2.2.2.2.1 a3 a4 (fun Wz xl=>
  bif (!a2) then
   Wx N a0 (fun Cs=>
    kf Cs false)
  else
   bif (!xl) then
    Wx N a0 (fun Cs=>
     kf Cs false)
   else
    SA N a0 (fun ayH=>
     bif (!ayH) then
      Wx N a0 (fun Cs=>
       kf Cs false)
     else
      SA N (a1.1,(a1.2.1,(a1.2.2.1,(a1.2.2.2.1,(a1.2.2.2.2.1,(Wz,a1.2.2.2.2.2.2)))))) (fun ayI=>
       bif (!ayI) then
        Wx N a0 (fun ayJ=>
         kf ayJ false)
       else
        kf (a1.1,(a1.2.1,(a1.2.2.1,(a1.2.2.2.1,(a1.2.2.2.2.1,(Wz,a1.2.2.2.2.2.2)))))) true)))
noncomputable def S21 (N:Nat) (a0:QC) (kf:QC→Bool→Option aa):Option aa:=
 Wx N a0 (fun dG=>
  S91 N a0.1 (fun cj EP=>
   S92 N a0.1 a0.2.1 cj (fun HB gv=>
    bif (decide ((List.length cj:Int)=(List.length cj:Int))&&decide ((0:Int)≤(List.length cj:Int))&&decide ((List.length cj:Int)≤1099511627776)) then
     bif EP then
      bif gv then
       S94 N a0 (fun ayK=>
        bif (!ayK) then
         S93 N a0 (dG.1,(dG.2.1,(cj,(HB,((List.replicate (Int.toNat (List.length cj:Int)) ((0:Int),((0:Int),(0:Int)))),dG.2.2.2.2.2))))) (decide ((List.length a0.1:Int)>(0:Int))) (3:Int) (0:Int) kf
        else
         S93 N a0 (dG.1,(dG.2.1,(cj,(HB,((List.replicate (Int.toNat (List.length cj:Int)) ((0:Int),((0:Int),(0:Int)))),dG.2.2.2.2.2))))) false (3:Int) (0:Int) kf)
      else
       S93 N a0 (dG.1,(dG.2.1,(cj,(HB,((List.replicate (Int.toNat (List.length cj:Int)) ((0:Int),((0:Int),(0:Int)))),dG.2.2.2.2.2))))) false (3:Int) (0:Int) kf
     else
      S93 N a0 (dG.1,(dG.2.1,(cj,(HB,((List.replicate (Int.toNat (List.length cj:Int)) ((0:Int),((0:Int),(0:Int)))),dG.2.2.2.2.2))))) false (3:Int) (0:Int) kf
    else none)))
noncomputable def pW (ab:(List Int)) (aj:(List Int)):Nat→(Option aa)→(Bool→Option aa)→Int→Option aa
 |0,_,_,_=>none
 |fz+1,Az,AA,ak=>
  bif (decide (ak<(List.length ab:Int))) then
   bif (aN ak (List.length ab)) then
    bif (aN ak (List.length aj)) then
     bif ((List.getD ab (Int.toNat ak) (0:Int)) != (List.getD aj (Int.toNat ak) (0:Int))) then
      AA false
     else
      (pW ab aj fz Az AA) (IntKind.wrap .i64 (ak+(1:Int)))
    else none
   else none
  else
   Az
noncomputable def aaa (N:Nat) (a0:(List Int)) (a1:(List Int)) (kf:Bool→Option aa):Option aa:=
 bif ((List.length a0:Int) != (List.length a1:Int)) then
  kf false
 else
  pW a0 a1 N (kf true) kf (0:Int)
noncomputable def aei (N:Nat) (a0:QT) (a1:QT) (kf:Bool→Option aa):Option aa:=
 bif (a0.1 != a1.1) then
  kf false
 else
  bif (a0.2.1 != a1.2.1) then
   kf false
  else
   bif (a0.2.2.1 != a1.2.2.1) then
    kf false
   else
    bif (a0.2.2.2.1 != a1.2.2.2.1) then
     kf false
    else
     bif (a0.2.2.2.2.1 != a1.2.2.2.2.1) then
      kf false
     else
      aaa N a0.2.2.2.2.2 a1.2.2.2.2.2 (fun ayL=>
       bif (!ayL) then
        kf false
       else
        kf true)
noncomputable def pX (N:Nat) (ab:(List QT)) (aj:(List QT)):Nat→(Option aa)→(Bool→Option aa)→Int→Option aa
 |0,_,_,_=>none
 |fz+1,cn,cp,ak=>
  bif (decide (ak<(List.length ab:Int))) then
   bif (aN ak (List.length ab)) then
    bif (aN ak (List.length aj)) then
     aei N (List.getD ab (Int.toNat ak) au) (List.getD aj (Int.toNat ak) au) (fun jd=>
      bif (!jd) then
       cp false
      else
       (pX N ab aj fz cn cp) (IntKind.wrap .i64 (ak+(1:Int))))
    else none
   else none
  else
   cn
noncomputable def akb (N:Nat) (a0:(List QT)) (a1:(List QT)) (kf:Bool→Option aa):Option aa:=
 bif ((List.length a0:Int) != (List.length a1:Int)) then
  kf false
 else
  pX N a0 a1 N (kf true) kf (0:Int)
noncomputable def aej (N:Nat) (a0:QJ) (a1:QJ) (kf:Bool→Option aa):Option aa:=
 bif (a0.1 != a1.1) then
  kf false
 else
  bif (a0.2.1 != a1.2.1) then
   kf false
  else
   aaa N a0.2.2 a1.2.2 (fun Wz=>
    bif (!Wz) then
     kf false
    else
     kf true)
noncomputable def pY (N:Nat) (ab:(List QJ)) (aj:(List QJ)):Nat→(Option aa)→(Bool→Option aa)→Int→Option aa
 |0,_,_,_=>none
 |fz+1,cn,cp,ak=>
  bif (decide (ak<(List.length ab:Int))) then
   bif (aN ak (List.length ab)) then
    bif (aN ak (List.length aj)) then
     aej N (List.getD ab (Int.toNat ak) b9) (List.getD aj (Int.toNat ak) b9) (fun jd=>
      bif (!jd) then
       cp false
      else
       (pY N ab aj fz cn cp) (IntKind.wrap .i64 (ak+(1:Int))))
    else none
   else none
  else
   cn
noncomputable def akc (N:Nat) (a0:(List QJ)) (a1:(List QJ)) (kf:Bool→Option aa):Option aa:=
 bif ((List.length a0:Int) != (List.length a1:Int)) then
  kf false
 else
  pY N a0 a1 N (kf true) kf (0:Int)
noncomputable def aek (N:Nat) (a0:a7) (a1:a7) (kf:Bool→Option aa):Option aa:=
 bif (a0.1 != a1.1) then
  kf false
 else
  bif (a0.2 != a1.2) then
   kf false
  else
   kf true
noncomputable def pZ (N:Nat) (ab:(List a7)) (aj:(List a7)):Nat→(Option aa)→(Bool→Option aa)→Int→Option aa
 |0,_,_,_=>none
 |fz+1,cn,cp,ak=>
  bif (decide (ak<(List.length ab:Int))) then
   bif (aN ak (List.length ab)) then
    bif (aN ak (List.length aj)) then
     aek N (List.getD ab (Int.toNat ak) cA) (List.getD aj (Int.toNat ak) cA) (fun jd=>
      bif (!jd) then
       cp false
      else
       (pZ N ab aj fz cn cp) (IntKind.wrap .i64 (ak+(1:Int))))
    else none
   else none
  else
   cn
noncomputable def akd (N:Nat) (a0:(List a7)) (a1:(List a7)) (kf:Bool→Option aa):Option aa:=
 bif ((List.length a0:Int) != (List.length a1:Int)) then
  kf false
 else
  pZ N a0 a1 N (kf true) kf (0:Int)
noncomputable def ael (N:Nat) (a0:QB) (a1:QB) (kf:Bool→Option aa):Option aa:=
 bif (a0.1 != a1.1) then
  kf false
 else
  bif (a0.2.1 != a1.2.1) then
   kf false
  else
   bif (a0.2.2 != a1.2.2) then
    kf false
   else
    kf true
noncomputable def p5 (N:Nat) (ab:(List QB)) (aj:(List QB)):Nat→(Option aa)→(Bool→Option aa)→Int→Option aa
 |0,_,_,_=>none
 |fz+1,cn,cp,ak=>
  bif (decide (ak<(List.length ab:Int))) then
   bif (aN ak (List.length ab)) then
    bif (aN ak (List.length aj)) then
     ael N (List.getD ab (Int.toNat ak) fp) (List.getD aj (Int.toNat ak) fp) (fun jd=>
      bif (!jd) then
       cp false
      else
       (p5 N ab aj fz cn cp) (IntKind.wrap .i64 (ak+(1:Int))))
    else none
   else none
  else
   cn
noncomputable def ake (N:Nat) (a0:(List QB)) (a1:(List QB)) (kf:Bool→Option aa):Option aa:=
 bif ((List.length a0:Int) != (List.length a1:Int)) then
  kf false
 else
  p5 N a0 a1 N (kf true) kf (0:Int)
noncomputable def aem (N:Nat) (a0:QL) (a1:QL) (kf:Bool→Option aa):Option aa:=
 bif (a0.1 != a1.1) then
  kf false
 else
  bif (a0.2.1 != a1.2.1) then
   kf false
  else
   bif (a0.2.2.1 != a1.2.2.1) then
    kf false
   else
    bif (a0.2.2.2 != a1.2.2.2) then
     kf false
    else
     kf true
noncomputable def p6 (N:Nat) (ab:(List QL)) (aj:(List QL)):Nat→(Option aa)→(Bool→Option aa)→Int→Option aa
 |0,_,_,_=>none
 |fz+1,cn,cp,ak=>
  bif (decide (ak<(List.length ab:Int))) then
   bif (aN ak (List.length ab)) then
    bif (aN ak (List.length aj)) then
     aem N (List.getD ab (Int.toNat ak) tJ) (List.getD aj (Int.toNat ak) tJ) (fun jd=>
      bif (!jd) then
       cp false
      else
       (p6 N ab aj fz cn cp) (IntKind.wrap .i64 (ak+(1:Int))))
    else none
   else none
  else
   cn
noncomputable def akf (N:Nat) (a0:(List QL)) (a1:(List QL)) (kf:Bool→Option aa):Option aa:=
 bif ((List.length a0:Int) != (List.length a1:Int)) then
  kf false
 else
  p6 N a0 a1 N (kf true) kf (0:Int)
noncomputable def L24 (N:Nat) (a0:QC) (a1:QC) (kf:Bool→Option aa):Option aa:=
 akb N a0.1 a1.1 (fun kt=>
  bif (!kt) then
   kf false
  else
   akc N a0.2.1 a1.2.1 (fun ES=>
    bif (!ES) then
     kf false
    else
     akd N a0.2.2.1 a1.2.2.1 (fun ad6=>
      bif (!ad6) then
       kf false
      else
       aaa N a0.2.2.2.1 a1.2.2.2.1 (fun adI=>
        bif (!adI) then
         kf false
        else
         ake N a0.2.2.2.2.1 a1.2.2.2.2.1 (fun Nj=>
          bif (!Nj) then
           kf false
          else
           akf N a0.2.2.2.2.2.1 a1.2.2.2.2.2.1 (fun adT=>
            bif (!adT) then
             kf false
            else
             bif (a0.2.2.2.2.2.2 != a1.2.2.2.2.2.2) then
              kf false
             else
              kf true))))))
noncomputable def sG :Nat→((List Int)→Int→Option aa)→(List Int)→Int→Int→Option aa
 |0,_,_,_,_=>none
 |fz+1,bq,ab,aj,ak=>
  bif (decide (ak<(List.length ab:Int))) then
   bif (aN ak (List.length ab)) then
    (sG fz bq) (List.set ab (Int.toNat ak) aj) (IntKind.wrap .i64 (aj+(1:Int))) (IntKind.wrap .i64 (ak+(1:Int)))
   else none
  else
   bq ab aj
noncomputable def aen (N:Nat) (a0:(List Int)) (a1:Int) (kf:Int→(List Int)→Option aa):Option aa:=
 sG N (fun azQ azR=>
  kf azR azQ) a0 a1 (0:Int)
noncomputable def sH (N:Nat):Nat→((List QT)→Int→Option aa)→(List QT)→Int→Int→Option aa
 |0,_,_,_,_=>none
 |fz+1,WA,ab,aj,ak=>
  bif (decide (ak<(List.length ab:Int))) then
   bif (aN ak (List.length ab)) then
    share (List.set ab (Int.toNat ak) (aj,(List.getD ab (Int.toNat ak) au).2)) (fun mj=>
     bif (aN ak (List.length mj)) then
      share (List.set mj (Int.toNat ak) ((List.getD mj (Int.toNat ak) au).1,((IntKind.wrap .i64 (aj+(1:Int))),(List.getD mj (Int.toNat ak) au).2.2))) (fun lv=>
       bif (aN ak (List.length lv)) then
        share (List.set lv (Int.toNat ak) ((List.getD lv (Int.toNat ak) au).1,((List.getD lv (Int.toNat ak) au).2.1,((IntKind.wrap .i64 ((IntKind.wrap .i64 (aj+(1:Int)))+(1:Int))),(List.getD lv (Int.toNat ak) au).2.2.2)))) (fun xq=>
         bif (aN ak (List.length xq)) then
          share (List.set xq (Int.toNat ak) ((List.getD xq (Int.toNat ak) au).1,((List.getD xq (Int.toNat ak) au).2.1,((List.getD xq (Int.toNat ak) au).2.2.1,((IntKind.wrap .i64 ((IntKind.wrap .i64 ((IntKind.wrap .i64 (aj+(1:Int)))+(1:Int)))+(1:Int))),(List.getD xq (Int.toNat ak) au).2.2.2.2))))) (fun I3=>
           bif (aN ak (List.length I3)) then
            share (List.set I3 (Int.toNat ak) ((List.getD I3 (Int.toNat ak) au).1,((List.getD I3 (Int.toNat ak) au).2.1,((List.getD I3 (Int.toNat ak) au).2.2.1,((List.getD I3 (Int.toNat ak) au).2.2.2.1,((IntKind.wrap .i64 ((IntKind.wrap .i64 ((IntKind.wrap .i64 ((IntKind.wrap .i64 (aj+(1:Int)))+(1:Int)))+(1:Int)))+(1:Int))),(List.getD I3 (Int.toNat ak) au).2.2.2.2.2)))))) (fun NB=>
             bif (aN ak (List.length NB)) then
              aen N (List.getD NB (Int.toNat ak) au).2.2.2.2.2 (IntKind.wrap .i64 ((IntKind.wrap .i64 ((IntKind.wrap .i64 ((IntKind.wrap .i64 ((IntKind.wrap .i64 (aj+(1:Int)))+(1:Int)))+(1:Int)))+(1:Int)))+(1:Int))) (fun at9 NC=>
               (sH N fz WA) (List.set NB (Int.toNat ak) ((List.getD NB (Int.toNat ak) au).1,((List.getD NB (Int.toNat ak) au).2.1,((List.getD NB (Int.toNat ak) au).2.2.1,((List.getD NB (Int.toNat ak) au).2.2.2.1,((List.getD NB (Int.toNat ak) au).2.2.2.2.1,NC)))))) at9 (IntKind.wrap .i64 (ak+(1:Int))))
             else none)
           else none)
         else none)
       else none)
     else none)
   else none
  else
   WA ab aj
noncomputable def at' (N:Nat) (a0:(List QT)) (a1:Int) (kf:Int→(List QT)→Option aa):Option aa:=
 sH N N (fun ayM ayN=>
  kf ayN ayM) a0 a1 (0:Int)
noncomputable def sI (N:Nat):Nat→((List QJ)→Int→Option aa)→(List QJ)→Int→Int→Option aa
 |0,_,_,_,_=>none
 |fz+1,iW,ab,aj,ak=>
  bif (decide (ak<(List.length ab:Int))) then
   bif (aN ak (List.length ab)) then
    share (List.set ab (Int.toNat ak) (aj,(List.getD ab (Int.toNat ak) b9).2)) (fun mj=>
     bif (aN ak (List.length mj)) then
      share (List.set mj (Int.toNat ak) ((List.getD mj (Int.toNat ak) b9).1,((IntKind.wrap .i64 (aj+(1:Int))),(List.getD mj (Int.toNat ak) b9).2.2))) (fun lv=>
       bif (aN ak (List.length lv)) then
        aen N (List.getD lv (Int.toNat ak) b9).2.2 (IntKind.wrap .i64 ((IntKind.wrap .i64 (aj+(1:Int)))+(1:Int))) (fun ayO atH=>
         (sI N fz iW) (List.set lv (Int.toNat ak) ((List.getD lv (Int.toNat ak) b9).1,((List.getD lv (Int.toNat ak) b9).2.1,atH))) ayO (IntKind.wrap .i64 (ak+(1:Int))))
       else none)
     else none)
   else none
  else
   iW ab aj
noncomputable def aua (N:Nat) (a0:(List QJ)) (a1:Int) (kf:Int→(List QJ)→Option aa):Option aa:=
 sI N N (fun NC aeo=>
  kf aeo NC) a0 a1 (0:Int)
noncomputable def sJ :Nat→((List a7)→Int→Option aa)→(List a7)→Int→Int→Option aa
 |0,_,_,_,_=>none
 |fz+1,dF,ab,aj,ak=>
  bif (decide (ak<(List.length ab:Int))) then
   bif (aN ak (List.length ab)) then
    share (List.set ab (Int.toNat ak) (aj,(List.getD ab (Int.toNat ak) cA).2)) (fun mj=>
     bif (aN ak (List.length mj)) then
      share (List.set mj (Int.toNat ak) ((List.getD mj (Int.toNat ak) cA).1,(IntKind.wrap .i64 (aj+(1:Int))))) (fun lv=>
       (sJ fz dF) lv (IntKind.wrap .i64 ((IntKind.wrap .i64 (aj+(1:Int)))+(1:Int))) (IntKind.wrap .i64 (ak+(1:Int))))
     else none)
   else none
  else
   dF ab aj
noncomputable def aub (N:Nat) (a0:(List a7)) (a1:Int) (kf:Int→(List a7)→Option aa):Option aa:=
 sJ N (fun azS ayP=>
  kf ayP azS) a0 a1 (0:Int)
noncomputable def sK :Nat→((List QB)→Int→Option aa)→(List QB)→Int→Int→Option aa
 |0,_,_,_,_=>none
 |fz+1,aep,ab,aj,ak=>
  bif (decide (ak<(List.length ab:Int))) then
   bif (aN ak (List.length ab)) then
    share (List.set ab (Int.toNat ak) (aj,(List.getD ab (Int.toNat ak) fp).2)) (fun mj=>
     bif (aN ak (List.length mj)) then
      share (List.set mj (Int.toNat ak) ((List.getD mj (Int.toNat ak) fp).1,((IntKind.wrap .i64 (aj+(1:Int))),(List.getD mj (Int.toNat ak) fp).2.2))) (fun lv=>
       bif (aN ak (List.length lv)) then
        share (List.set lv (Int.toNat ak) ((List.getD lv (Int.toNat ak) fp).1,((List.getD lv (Int.toNat ak) fp).2.1,(IntKind.wrap .i64 ((IntKind.wrap .i64 (aj+(1:Int)))+(1:Int)))))) (fun xq=>
         (sK fz aep) xq (IntKind.wrap .i64 ((IntKind.wrap .i64 ((IntKind.wrap .i64 (aj+(1:Int)))+(1:Int)))+(1:Int))) (IntKind.wrap .i64 (ak+(1:Int))))
       else none)
     else none)
   else none
  else
   aep ab aj
noncomputable def auc (N:Nat) (a0:(List QB)) (a1:Int) (kf:Int→(List QB)→Option aa):Option aa:=
 sK N (fun ayQ ayR=>
  kf ayR ayQ) a0 a1 (0:Int)
noncomputable def sL :Nat→((List QL)→Int→Option aa)→(List QL)→Int→Int→Option aa
 |0,_,_,_,_=>none
 |fz+1,iW,ab,aj,ak=>
  bif (decide (ak<(List.length ab:Int))) then
   bif (aN ak (List.length ab)) then
    share (List.set ab (Int.toNat ak) (aj,(List.getD ab (Int.toNat ak) tJ).2)) (fun mj=>
     bif (aN ak (List.length mj)) then
      share (List.set mj (Int.toNat ak) ((List.getD mj (Int.toNat ak) tJ).1,((IntKind.wrap .i64 (aj+(1:Int))),(List.getD mj (Int.toNat ak) tJ).2.2))) (fun lv=>
       bif (aN ak (List.length lv)) then
        share (List.set lv (Int.toNat ak) ((List.getD lv (Int.toNat ak) tJ).1,((List.getD lv (Int.toNat ak) tJ).2.1,((IntKind.wrap .i64 ((IntKind.wrap .i64 (aj+(1:Int)))+(1:Int))),(List.getD lv (Int.toNat ak) tJ).2.2.2)))) (fun xq=>
         bif (aN ak (List.length xq)) then
          share (List.set xq (Int.toNat ak) ((List.getD xq (Int.toNat ak) tJ).1,((List.getD xq (Int.toNat ak) tJ).2.1,((List.getD xq (Int.toNat ak) tJ).2.2.1,(IntKind.wrap .i64 ((IntKind.wrap .i64 ((IntKind.wrap .i64 (aj+(1:Int)))+(1:Int)))+(1:Int))))))) (fun I3=>
           (sL fz iW) I3 (IntKind.wrap .i64 ((IntKind.wrap .i64 ((IntKind.wrap .i64 ((IntKind.wrap .i64 (aj+(1:Int)))+(1:Int)))+(1:Int)))+(1:Int))) (IntKind.wrap .i64 (ak+(1:Int))))
         else none)
       else none)
     else none)
   else none
  else
   iW ab aj
noncomputable def aud (N:Nat) (a0:(List QL)) (a1:Int) (kf:Int→(List QL)→Option aa):Option aa:=
 sL N (fun NC aeo=>
  kf aeo NC) a0 a1 (0:Int)
noncomputable def L25 (N:Nat) (a0:QC) (a1:Int) (kf:Int→QC→Option aa):Option aa:=
 at' N a0.1 a1 (fun ru azT=>
  aua N a0.2.1 ru (fun ayS azU=>
   aub N a0.2.2.1 ayS (fun ayT azV=>
    aen N a0.2.2.2.1 ayT (fun ayU azW=>
     auc N a0.2.2.2.2.1 ayU (fun ayV ayW=>
      aud N a0.2.2.2.2.2.1 ayV (fun aue ayX=>
       kf aue (azT,(azU,(azV,(azW,(ayW,(ayX,a0.2.2.2.2.2.2))))))))))))
noncomputable def sM (ab:(List Int)):Nat→(Int→Option aa)→(Int→Option aa)→Int→Int→Option aa
 |0,_,_,_,_=>none
 |fz+1,bq,bB,aj,ak=>
  bif (decide (ak<(List.length ab:Int))) then
   bif (aN ak (List.length ab)) then
    bif ((List.getD ab (Int.toNat ak) (0:Int)) != aj) then
     bB (-1:Int)
    else
     (sM ab fz bq bB) (IntKind.wrap .i64 (aj+(1:Int))) (IntKind.wrap .i64 (ak+(1:Int)))
   else none
  else
   bq aj
noncomputable def aeq (N:Nat) (a0:(List Int)) (a1:Int) (kf:Int→Option aa):Option aa:=
 sM a0 N kf kf a1 (0:Int)
noncomputable def sO (N:Nat) (ab:(List QT)):Nat→(Int→Option aa)→(Int→Option aa)→Int→Int→Option aa
 |0,_,_,_,_=>none
 |fz+1,kM,fh,aj,ak=>
  bif (decide (ak<(List.length ab:Int))) then
   bif (aN ak (List.length ab)) then
    bif ((List.getD ab (Int.toNat ak) au).1 != aj) then
     fh (-1:Int)
    else
     bif (aN ak (List.length ab)) then
      bif ((List.getD ab (Int.toNat ak) au).2.1 != (IntKind.wrap .i64 (aj+(1:Int)))) then
       fh (-1:Int)
      else
       bif (aN ak (List.length ab)) then
        bif ((List.getD ab (Int.toNat ak) au).2.2.1 != (IntKind.wrap .i64 ((IntKind.wrap .i64 (aj+(1:Int)))+(1:Int)))) then
         fh (-1:Int)
        else
         bif (aN ak (List.length ab)) then
          bif ((List.getD ab (Int.toNat ak) au).2.2.2.1 != (IntKind.wrap .i64 ((IntKind.wrap .i64 ((IntKind.wrap .i64 (aj+(1:Int)))+(1:Int)))+(1:Int)))) then
           fh (-1:Int)
          else
           bif (aN ak (List.length ab)) then
            bif ((List.getD ab (Int.toNat ak) au).2.2.2.2.1 != (IntKind.wrap .i64 ((IntKind.wrap .i64 ((IntKind.wrap .i64 ((IntKind.wrap .i64 (aj+(1:Int)))+(1:Int)))+(1:Int)))+(1:Int)))) then
             fh (-1:Int)
            else
             bif (aN ak (List.length ab)) then
              aeq N (List.getD ab (Int.toNat ak) au).2.2.2.2.2 (IntKind.wrap .i64 ((IntKind.wrap .i64 ((IntKind.wrap .i64 ((IntKind.wrap .i64 ((IntKind.wrap .i64 (aj+(1:Int)))+(1:Int)))+(1:Int)))+(1:Int)))+(1:Int))) (fun ar3=>
               bif (decide (ar3<(0:Int))) then
                fh (-1:Int)
               else
                (sO N ab fz kM fh) ar3 (IntKind.wrap .i64 (ak+(1:Int))))
             else none
           else none
         else none
       else none
     else none
   else none
  else
   kM aj
noncomputable def auf (N:Nat) (a0:(List QT)) (a1:Int) (kf:Int→Option aa):Option aa:=
 sO N a0 N kf kf a1 (0:Int)
noncomputable def sQ (N:Nat) (ab:(List QJ)):Nat→(Int→Option aa)→(Int→Option aa)→Int→Int→Option aa
 |0,_,_,_,_=>none
 |fz+1,kM,fh,aj,ak=>
  bif (decide (ak<(List.length ab:Int))) then
   bif (aN ak (List.length ab)) then
    bif ((List.getD ab (Int.toNat ak) b9).1 != aj) then
     fh (-1:Int)
    else
     bif (aN ak (List.length ab)) then
      bif ((List.getD ab (Int.toNat ak) b9).2.1 != (IntKind.wrap .i64 (aj+(1:Int)))) then
       fh (-1:Int)
      else
       bif (aN ak (List.length ab)) then
        aeq N (List.getD ab (Int.toNat ak) b9).2.2 (IntKind.wrap .i64 ((IntKind.wrap .i64 (aj+(1:Int)))+(1:Int))) (fun ar4=>
         bif (decide (ar4<(0:Int))) then
          fh (-1:Int)
         else
          (sQ N ab fz kM fh) ar4 (IntKind.wrap .i64 (ak+(1:Int))))
       else none
     else none
   else none
  else
   kM aj
noncomputable def aug (N:Nat) (a0:(List QJ)) (a1:Int) (kf:Int→Option aa):Option aa:=
 sQ N a0 N kf kf a1 (0:Int)
noncomputable def sR (ab:(List a7)):Nat→(Int→Option aa)→(Int→Option aa)→Int→Int→Option aa
 |0,_,_,_,_=>none
 |fz+1,bq,bB,aj,ak=>
  bif (decide (ak<(List.length ab:Int))) then
   bif (aN ak (List.length ab)) then
    bif ((List.getD ab (Int.toNat ak) cA).1 != aj) then
     bB (-1:Int)
    else
     bif (aN ak (List.length ab)) then
      bif ((List.getD ab (Int.toNat ak) cA).2 != (IntKind.wrap .i64 (aj+(1:Int)))) then
       bB (-1:Int)
      else
       (sR ab fz bq bB) (IntKind.wrap .i64 ((IntKind.wrap .i64 (aj+(1:Int)))+(1:Int))) (IntKind.wrap .i64 (ak+(1:Int)))
     else none
   else none
  else
   bq aj
noncomputable def auh (N:Nat) (a0:(List a7)) (a1:Int) (kf:Int→Option aa):Option aa:=
 sR a0 N kf kf a1 (0:Int)
noncomputable def sS (ab:(List QB)):Nat→(Int→Option aa)→(Int→Option aa)→Int→Int→Option aa
 |0,_,_,_,_=>none
 |fz+1,bq,bB,aj,ak=>
  bif (decide (ak<(List.length ab:Int))) then
   bif (aN ak (List.length ab)) then
    bif ((List.getD ab (Int.toNat ak) fp).1 != aj) then
     bB (-1:Int)
    else
     bif (aN ak (List.length ab)) then
      bif ((List.getD ab (Int.toNat ak) fp).2.1 != (IntKind.wrap .i64 (aj+(1:Int)))) then
       bB (-1:Int)
      else
       bif (aN ak (List.length ab)) then
        bif ((List.getD ab (Int.toNat ak) fp).2.2 != (IntKind.wrap .i64 ((IntKind.wrap .i64 (aj+(1:Int)))+(1:Int)))) then
         bB (-1:Int)
        else
         (sS ab fz bq bB) (IntKind.wrap .i64 ((IntKind.wrap .i64 ((IntKind.wrap .i64 (aj+(1:Int)))+(1:Int)))+(1:Int))) (IntKind.wrap .i64 (ak+(1:Int)))
       else none
     else none
   else none
  else
   bq aj
noncomputable def aui (N:Nat) (a0:(List QB)) (a1:Int) (kf:Int→Option aa):Option aa:=
 sS a0 N kf kf a1 (0:Int)
noncomputable def sU (ab:(List QL)):Nat→(Int→Option aa)→(Int→Option aa)→Int→Int→Option aa
 |0,_,_,_,_=>none
 |fz+1,bq,bB,aj,ak=>
  bif (decide (ak<(List.length ab:Int))) then
   bif (aN ak (List.length ab)) then
    bif ((List.getD ab (Int.toNat ak) tJ).1 != aj) then
     bB (-1:Int)
    else
     bif (aN ak (List.length ab)) then
      bif ((List.getD ab (Int.toNat ak) tJ).2.1 != (IntKind.wrap .i64 (aj+(1:Int)))) then
       bB (-1:Int)
      else
       bif (aN ak (List.length ab)) then
        bif ((List.getD ab (Int.toNat ak) tJ).2.2.1 != (IntKind.wrap .i64 ((IntKind.wrap .i64 (aj+(1:Int)))+(1:Int)))) then
         bB (-1:Int)
        else
         bif (aN ak (List.length ab)) then
          bif ((List.getD ab (Int.toNat ak) tJ).2.2.2 != (IntKind.wrap .i64 ((IntKind.wrap .i64 ((IntKind.wrap .i64 (aj+(1:Int)))+(1:Int)))+(1:Int)))) then
           bB (-1:Int)
          else
           (sU ab fz bq bB) (IntKind.wrap .i64 ((IntKind.wrap .i64 ((IntKind.wrap .i64 ((IntKind.wrap .i64 (aj+(1:Int)))+(1:Int)))+(1:Int)))+(1:Int))) (IntKind.wrap .i64 (ak+(1:Int)))
         else none
       else none
     else none
   else none
  else
   bq aj
noncomputable def auj (N:Nat) (a0:(List QL)) (a1:Int) (kf:Int→Option aa):Option aa:=
 sU a0 N kf kf a1 (0:Int)
noncomputable def L26 (N:Nat) (a0:QC) (a1:Int) (kf:Int→Option aa):Option aa:=
 auf N a0.1 a1 (fun ru=>
  bif (decide (ru<(0:Int))) then
   kf (-1:Int)
  else
   aug N a0.2.1 ru (fun cj=>
    bif (decide (cj<(0:Int))) then
     kf (-1:Int)
    else
     auh N a0.2.2.1 cj (fun Ns=>
      bif (decide (Ns<(0:Int))) then
       kf (-1:Int)
      else
       aeq N a0.2.2.2.1 Ns (fun kx=>
        bif (decide (kx<(0:Int))) then
         kf (-1:Int)
        else
         aui N a0.2.2.2.2.1 kx (fun Nt=>
          bif (decide (Nt<(0:Int))) then
           kf (-1:Int)
          else
           auj N a0.2.2.2.2.2.1 Nt (fun Nu=>
            bif (decide (Nu<(0:Int))) then
             kf (-1:Int)
            else
             kf Nu))))))
noncomputable def m8 (lh:QC) (bh:QB):Nat→((List Int)→Option aa)→(List Int)→Int→Option aa
 |0,_,_,_=>none
 |mD+1,il,ao,I4=>
  bif (decide (I4<(List.length lh.2.2.2.2.1:Int))) then
   bif (aN I4 (List.length lh.2.2.2.2.1)) then
    bif ((decide (((List.getD lh.2.2.2.2.1 (Int.toNat I4) fp).1:Int)=bh.1))&&((decide (((List.getD lh.2.2.2.2.1 (Int.toNat I4) fp).2.1:Int)=bh.2.1))&&(decide (((List.getD lh.2.2.2.2.1 (Int.toNat I4) fp).2.2:Int)=bh.2.2)))) then
     bif (decide ((List.length ao+List.length [I4])*1≤4398046511104)) then
      (m8 lh bh mD il) (ao++[I4]) (IntKind.wrap .i64 (I4+(1:Int)))
     else none
    else
     (m8 lh bh mD il) ao (IntKind.wrap .i64 (I4+(1:Int)))
   else none
  else
   il ao
noncomputable def akg (N:Nat) (a0:QC) (kf:(List Int)→Option aa):Option aa:=
 m8 a0 ((0:Int),((0:Int),(0:Int))) N kf ([]:(List Int)) (0:Int)
noncomputable def m9 (N:Nat) (ab:(List QB)):Nat→(Option aa)→(Bool→Option aa)→Int→Option aa
 |0,_,_,_=>none
 |n_3+1,bq,bB,ao=>
  bif (decide (ao<(List.length ab:Int))) then
   bif (aN ao (List.length ab)) then
    NA N (List.getD ab (Int.toNat ao) fp) (fun aer=>
     bif (!aer) then
      bB false
     else
      bif (decide (ao>(0:Int))) then
       bif (aN (IntKind.wrap .i64 (ao - (1:Int))) (List.length ab)) then
        bif (aN ao (List.length ab)) then
         bif (decide ((List.getD ab (Int.toNat (IntKind.wrap .i64 (ao - (1:Int)))) fp).1≥(List.getD ab (Int.toNat ao) fp).1)) then
          bB false
         else
          (m9 N ab n_3 bq bB) (IntKind.wrap .i64 (ao+(1:Int)))
        else none
       else none
      else
       (m9 N ab n_3 bq bB) (IntKind.wrap .i64 (ao+(1:Int))))
   else none
  else
   bq
noncomputable def SB (N:Nat) (a0:(List QB)) (kf:Bool→Option aa):Option aa:=
 m9 N a0 N (kf (decide ((List.length a0:Int)≤(9:Int)))) kf (0:Int)
noncomputable def aab (N:Nat) (a0:QB) (kf:Int→Option aa):Option aa:=
 bif (decide (a0.2.1>a0.2.2)) then
  kf (1:Int)
 else
  kf (2:Int)
noncomputable def na (N:Nat) (ab:(List QB)) (aj:Int):Nat→(Int→Option aa)→Int→Int→Option aa
 |0,_,_,_=>none
 |mD+1,cl,ak,fK=>
  bif (decide (fK<(List.length ab:Int))) then
   SB N ab (fun ND=>
    bif ND then
     bif (aN fK (List.length ab)) then
      aab N (List.getD ab (Int.toNat fK) fp) (fun M'=>
       bif (M'==aj) then
        (na N ab aj mD cl) (IntKind.wrap .i64 (ak+(1:Int))) (IntKind.wrap .i64 (fK+(1:Int)))
       else
        (na N ab aj mD cl) ak (IntKind.wrap .i64 (fK+(1:Int))))
     else none
    else
     cl ak)
  else
   cl ak
noncomputable def aes (N:Nat) (a0:(List QB)) (a1:Int) (kf:Int→Option aa):Option aa:=
 na N a0 a1 N kf (0:Int) (0:Int)
noncomputable def xr (N:Nat) (ab:(List QB)) (aj:Int):Nat→(Int→Option aa)→Int→Int→Option aa
 |0,_,_,_=>none
 |mD+1,cS,ak,fK=>
  bif (decide (fK<(List.length ab:Int))) then
   SB N ab (fun ND=>
    bif ND then
     bif (aj==(1:Int)) then
      bif (aN fK (List.length ab)) then
       (xr N ab aj mD cS) (IntKind.wrap .i64 (ak+(List.getD ab (Int.toNat fK) fp).2.1)) (IntKind.wrap .i64 (fK+(1:Int)))
      else none
     else
      bif (aj==(2:Int)) then
       bif (aN fK (List.length ab)) then
        (xr N ab aj mD cS) (IntKind.wrap .i64 (ak+(List.getD ab (Int.toNat fK) fp).2.2)) (IntKind.wrap .i64 (fK+(1:Int)))
       else none
      else
       (xr N ab aj mD cS) ak (IntKind.wrap .i64 (fK+(1:Int)))
    else
     cS ak)
  else
   cS ak
noncomputable def auk (N:Nat) (a0:(List QB)) (a1:Int) (kf:Int→Option aa):Option aa:=
 xr N a0 a1 N kf (0:Int) (0:Int)
noncomputable def WB (N:Nat) (a0:(List QB)) (kf:Int→Option aa) (ayY:Int):Option aa:=
 bif (decide (ayY>(0:Int))) then
  kf (1:Int)
 else
  bif (decide (ayY<(0:Int))) then
   kf (2:Int)
  else
   bif (aN (0:Int) (List.length a0)) then
    aab N (List.getD a0 (Int.toNat (0:Int)) fp) kf
   else none
noncomputable def aac (N:Nat) (a0:(List QB)) (kf:Int→Option aa):Option aa:=
 bif ((List.length a0:Int)==(0:Int)) then
  kf (0:Int)
 else
  SB N a0 (fun kt=>
   bif (!kt) then
    kf (0:Int)
   else
    aes N a0 (1:Int) (fun fQ=>
     aes N a0 (2:Int) (fun ar5=>
      bif ((IntKind.wrap .i64 (fQ - ar5))==(0:Int)) then
       auk N a0 (1:Int) (fun ayZ=>
        auk N a0 (2:Int) (fun ad8=>
         WB N a0 kf (IntKind.wrap .i64 (ayZ - ad8))))
      else
       WB N a0 kf (IntKind.wrap .i64 (fQ - ar5)))))
noncomputable def Dk (N:Nat) (a0:(List QT)) (kf:(List QT)→Bool→Option aa) (aet:(List QT)):Option aa:=
 tu N aet (fun akh=>
  bif (!akh) then
   E4 N a0 (fun aki=>
    kf aki false)
  else
   kf aet true)
noncomputable def aad (N:Nat) (a0:(List QT)) (a1:Int) (a2:Int) (a3:Int) (a4:Int) (a5:Int) (kf:(List QT)→Bool→Option aa):Option aa:=
 E4 N a0 (fun aD=>
  uY N a0 a1 (fun ae=>
   uY N a0 a2 (fun aE=>
    tu N a0 (fun kx=>
     bif (!kx) then
      kf aD false
     else
      bif (decide (ae<(0:Int))) then
       kf aD false
      else
       bif (decide (aE<(0:Int))) then
        kf aD false
       else
        bif (ae==aE) then
         kf aD false
        else
         gn N a3 (1:Int) (2:Int) (fun ad1=>
          bif (!ad1) then
           kf aD false
          else
           gn N a4 (0:Int) (1000:Int) (fun ad2=>
            bif (!ad2) then
             kf aD false
            else
             gn N a5 (0:Int) (1000:Int) (fun ad3=>
              bif (!ad3) then
               kf aD false
              else
               bif (aN ae (List.length aD)) then
                bif (decide ((List.length (List.getD aD (Int.toNat ae) au).2.2.2.2.2+List.length [a2])*1≤4398046511104)) then
                 bif (aN ae (List.length aD)) then
                  bif (Nat.beq (Int.toNat ae) (Int.toNat ae)) then
                   bif (aN aE (List.length (List.set aD (Int.toNat ae) ((List.getD aD (Int.toNat ae) au).1,((List.getD aD (Int.toNat ae) au).2.1,((List.getD aD (Int.toNat ae) au).2.2.1,((List.getD aD (Int.toNat ae) au).2.2.2.1,((List.getD aD (Int.toNat ae) au).2.2.2.2.1,((List.getD aD (Int.toNat ae) au).2.2.2.2.2++[a2]))))))))) then
                    bif (decide ((List.length (List.getD (List.set aD (Int.toNat ae) ((List.getD aD (Int.toNat ae) au).1,((List.getD aD (Int.toNat ae) au).2.1,((List.getD aD (Int.toNat ae) au).2.2.1,((List.getD aD (Int.toNat ae) au).2.2.2.1,((List.getD aD (Int.toNat ae) au).2.2.2.2.1,((List.getD aD (Int.toNat ae) au).2.2.2.2.2++[a2]))))))) (Int.toNat aE) au).2.2.2.2.2+List.length [a1])*1≤4398046511104)) then
                     bif (aN aE (List.length (List.set aD (Int.toNat ae) ((List.getD aD (Int.toNat ae) au).1,((List.getD aD (Int.toNat ae) au).2.1,((List.getD aD (Int.toNat ae) au).2.2.1,((List.getD aD (Int.toNat ae) au).2.2.2.1,((List.getD aD (Int.toNat ae) au).2.2.2.2.1,((List.getD aD (Int.toNat ae) au).2.2.2.2.2++[a2]))))))))) then
                      bif (Nat.beq (Int.toNat aE) (Int.toNat aE)) then
                       share (List.set (List.set aD (Int.toNat ae) ((List.getD aD (Int.toNat ae) au).1,((List.getD aD (Int.toNat ae) au).2.1,((List.getD aD (Int.toNat ae) au).2.2.1,((List.getD aD (Int.toNat ae) au).2.2.2.1,((List.getD aD (Int.toNat ae) au).2.2.2.2.1,((List.getD aD (Int.toNat ae) au).2.2.2.2.2++[a2]))))))) (Int.toNat aE) ((List.getD (List.set aD (Int.toNat ae) ((List.getD aD (Int.toNat ae) au).1,((List.getD aD (Int.toNat ae) au).2.1,((List.getD aD (Int.toNat ae) au).2.2.1,((List.getD aD (Int.toNat ae) au).2.2.2.1,((List.getD aD (Int.toNat ae) au).2.2.2.2.1,((List.getD aD (Int.toNat ae) au).2.2.2.2.2++[a2]))))))) (Int.toNat aE) au).1,((List.getD (List.set aD (Int.toNat ae) ((List.getD aD (Int.toNat ae) au).1,((List.getD aD (Int.toNat ae) au).2.1,((List.getD aD (Int.toNat ae) au).2.2.1,((List.getD aD (Int.toNat ae) au).2.2.2.1,((List.getD aD (Int.toNat ae) au).2.2.2.2.1,((List.getD aD (Int.toNat ae) au).2.2.2.2.2++[a2]))))))) (Int.toNat aE) au).2.1,((List.getD (List.set aD (Int.toNat ae) ((List.getD aD (Int.toNat ae) au).1,((List.getD aD (Int.toNat ae) au).2.1,((List.getD aD (Int.toNat ae) au).2.2.1,((List.getD aD (Int.toNat ae) au).2.2.2.1,((List.getD aD (Int.toNat ae) au).2.2.2.2.1,((List.getD aD (Int.toNat ae) au).2.2.2.2.2++[a2]))))))) (Int.toNat aE) au).2.2.1,((List.getD (List.set aD (Int.toNat ae) ((List.getD aD (Int.toNat ae) au).1,((List.getD aD (Int.toNat ae) au).2.1,((List.getD aD (Int.toNat ae) au).2.2.1,((List.getD aD (Int.toNat ae) au).2.2.2.1,((List.getD aD (Int.toNat ae) au).2.2.2.2.1,((List.getD aD (Int.toNat ae) au).2.2.2.2.2++[a2]))))))) (Int.toNat aE) au).2.2.2.1,((List.getD (List.set aD (Int.toNat ae) ((List.getD aD (Int.toNat ae) au).1,((List.getD aD (Int.toNat ae) au).2.1,((List.getD aD (Int.toNat ae) au).2.2.1,((List.getD aD (Int.toNat ae) au).2.2.2.1,((List.getD aD (Int.toNat ae) au).2.2.2.2.1,((List.getD aD (Int.toNat ae) au).2.2.2.2.2++[a2]))))))) (Int.toNat aE) au).2.2.2.2.1,((List.getD (List.set aD (Int.toNat ae) ((List.getD aD (Int.toNat ae) au).1,((List.getD aD (Int.toNat ae) au).2.1,((List.getD aD (Int.toNat ae) au).2.2.1,((List.getD aD (Int.toNat ae) au).2.2.2.1,((List.getD aD (Int.toNat ae) au).2.2.2.2.1,((List.getD aD (Int.toNat ae) au).2.2.2.2.2++[a2]))))))) (Int.toNat aE) au).2.2.2.2.2++[a1]))))))) (fun aA=>
                        bif (aN ae (List.length aA)) then
                         bif (aN ae (List.length aA)) then
                          bif (aN ae (List.length (List.set aA (Int.toNat ae) ((List.getD aA (Int.toNat ae) au).1,((List.getD aA (Int.toNat ae) au).2.1,((List.getD aA (Int.toNat ae) au).2.2.1,((List.getD aA (Int.toNat ae) au).2.2.2.1,((IntKind.wrap .i64 ((List.getD aA (Int.toNat ae) au).2.2.2.2.1+(1:Int))),(List.getD aA (Int.toNat ae) au).2.2.2.2.2)))))))) then
                           bif (aN ae (List.length (List.set aA (Int.toNat ae) ((List.getD aA (Int.toNat ae) au).1,((List.getD aA (Int.toNat ae) au).2.1,((List.getD aA (Int.toNat ae) au).2.2.1,((List.getD aA (Int.toNat ae) au).2.2.2.1,((IntKind.wrap .i64 ((List.getD aA (Int.toNat ae) au).2.2.2.2.1+(1:Int))),(List.getD aA (Int.toNat ae) au).2.2.2.2.2)))))))) then
                            share (List.set (List.set aA (Int.toNat ae) ((List.getD aA (Int.toNat ae) au).1,((List.getD aA (Int.toNat ae) au).2.1,((List.getD aA (Int.toNat ae) au).2.2.1,((List.getD aA (Int.toNat ae) au).2.2.2.1,((IntKind.wrap .i64 ((List.getD aA (Int.toNat ae) au).2.2.2.2.1+(1:Int))),(List.getD aA (Int.toNat ae) au).2.2.2.2.2)))))) (Int.toNat ae) ((List.getD (List.set aA (Int.toNat ae) ((List.getD aA (Int.toNat ae) au).1,((List.getD aA (Int.toNat ae) au).2.1,((List.getD aA (Int.toNat ae) au).2.2.1,((List.getD aA (Int.toNat ae) au).2.2.2.1,((IntKind.wrap .i64 ((List.getD aA (Int.toNat ae) au).2.2.2.2.1+(1:Int))),(List.getD aA (Int.toNat ae) au).2.2.2.2.2)))))) (Int.toNat ae) au).1,((List.getD (List.set aA (Int.toNat ae) ((List.getD aA (Int.toNat ae) au).1,((List.getD aA (Int.toNat ae) au).2.1,((List.getD aA (Int.toNat ae) au).2.2.1,((List.getD aA (Int.toNat ae) au).2.2.2.1,((IntKind.wrap .i64 ((List.getD aA (Int.toNat ae) au).2.2.2.2.1+(1:Int))),(List.getD aA (Int.toNat ae) au).2.2.2.2.2)))))) (Int.toNat ae) au).2.1,((List.getD (List.set aA (Int.toNat ae) ((List.getD aA (Int.toNat ae) au).1,((List.getD aA (Int.toNat ae) au).2.1,((List.getD aA (Int.toNat ae) au).2.2.1,((List.getD aA (Int.toNat ae) au).2.2.2.1,((IntKind.wrap .i64 ((List.getD aA (Int.toNat ae) au).2.2.2.2.1+(1:Int))),(List.getD aA (Int.toNat ae) au).2.2.2.2.2)))))) (Int.toNat ae) au).2.2.1,((IntKind.wrap .i64 ((List.getD (List.set aA (Int.toNat ae) ((List.getD aA (Int.toNat ae) au).1,((List.getD aA (Int.toNat ae) au).2.1,((List.getD aA (Int.toNat ae) au).2.2.1,((List.getD aA (Int.toNat ae) au).2.2.2.1,((IntKind.wrap .i64 ((List.getD aA (Int.toNat ae) au).2.2.2.2.1+(1:Int))),(List.getD aA (Int.toNat ae) au).2.2.2.2.2)))))) (Int.toNat ae) au).2.2.2.1+a4)),(List.getD (List.set aA (Int.toNat ae) ((List.getD aA (Int.toNat ae) au).1,((List.getD aA (Int.toNat ae) au).2.1,((List.getD aA (Int.toNat ae) au).2.2.1,((List.getD aA (Int.toNat ae) au).2.2.2.1,((IntKind.wrap .i64 ((List.getD aA (Int.toNat ae) au).2.2.2.2.1+(1:Int))),(List.getD aA (Int.toNat ae) au).2.2.2.2.2)))))) (Int.toNat ae) au).2.2.2.2))))) (fun aY=>
                             bif (aN aE (List.length aY)) then
                              bif (aN aE (List.length aY)) then
                               bif (a3==(1:Int)) then
                                bif (aN ae (List.length (List.set aY (Int.toNat aE) ((List.getD aY (Int.toNat aE) au).1,((List.getD aY (Int.toNat aE) au).2.1,((List.getD aY (Int.toNat aE) au).2.2.1,((IntKind.wrap .i64 ((List.getD aY (Int.toNat aE) au).2.2.2.1+a5)),(List.getD aY (Int.toNat aE) au).2.2.2.2))))))) then
                                 bif (aN ae (List.length (List.set aY (Int.toNat aE) ((List.getD aY (Int.toNat aE) au).1,((List.getD aY (Int.toNat aE) au).2.1,((List.getD aY (Int.toNat aE) au).2.2.1,((IntKind.wrap .i64 ((List.getD aY (Int.toNat aE) au).2.2.2.1+a5)),(List.getD aY (Int.toNat aE) au).2.2.2.2))))))) then
                                  share (List.set (List.set aY (Int.toNat aE) ((List.getD aY (Int.toNat aE) au).1,((List.getD aY (Int.toNat aE) au).2.1,((List.getD aY (Int.toNat aE) au).2.2.1,((IntKind.wrap .i64 ((List.getD aY (Int.toNat aE) au).2.2.2.1+a5)),(List.getD aY (Int.toNat aE) au).2.2.2.2))))) (Int.toNat ae) ((List.getD (List.set aY (Int.toNat aE) ((List.getD aY (Int.toNat aE) au).1,((List.getD aY (Int.toNat aE) au).2.1,((List.getD aY (Int.toNat aE) au).2.2.1,((IntKind.wrap .i64 ((List.getD aY (Int.toNat aE) au).2.2.2.1+a5)),(List.getD aY (Int.toNat aE) au).2.2.2.2))))) (Int.toNat ae) au).1,((List.getD (List.set aY (Int.toNat aE) ((List.getD aY (Int.toNat aE) au).1,((List.getD aY (Int.toNat aE) au).2.1,((List.getD aY (Int.toNat aE) au).2.2.1,((IntKind.wrap .i64 ((List.getD aY (Int.toNat aE) au).2.2.2.1+a5)),(List.getD aY (Int.toNat aE) au).2.2.2.2))))) (Int.toNat ae) au).2.1,((IntKind.wrap .i64 ((List.getD (List.set aY (Int.toNat aE) ((List.getD aY (Int.toNat aE) au).1,((List.getD aY (Int.toNat aE) au).2.1,((List.getD aY (Int.toNat aE) au).2.2.1,((IntKind.wrap .i64 ((List.getD aY (Int.toNat aE) au).2.2.2.1+a5)),(List.getD aY (Int.toNat aE) au).2.2.2.2))))) (Int.toNat ae) au).2.2.1+(1:Int))),(List.getD (List.set aY (Int.toNat aE) ((List.getD aY (Int.toNat aE) au).1,((List.getD aY (Int.toNat aE) au).2.1,((List.getD aY (Int.toNat aE) au).2.2.1,((IntKind.wrap .i64 ((List.getD aY (Int.toNat aE) au).2.2.2.1+a5)),(List.getD aY (Int.toNat aE) au).2.2.2.2))))) (Int.toNat ae) au).2.2.2)))) (fun Sk=>
                                   Dk N a0 kf Sk)
                                 else none
                                else none
                               else
                                bif (aN aE (List.length (List.set aY (Int.toNat aE) ((List.getD aY (Int.toNat aE) au).1,((List.getD aY (Int.toNat aE) au).2.1,((List.getD aY (Int.toNat aE) au).2.2.1,((IntKind.wrap .i64 ((List.getD aY (Int.toNat aE) au).2.2.2.1+a5)),(List.getD aY (Int.toNat aE) au).2.2.2.2))))))) then
                                 bif (aN aE (List.length (List.set aY (Int.toNat aE) ((List.getD aY (Int.toNat aE) au).1,((List.getD aY (Int.toNat aE) au).2.1,((List.getD aY (Int.toNat aE) au).2.2.1,((IntKind.wrap .i64 ((List.getD aY (Int.toNat aE) au).2.2.2.1+a5)),(List.getD aY (Int.toNat aE) au).2.2.2.2))))))) then
                                  share (List.set (List.set aY (Int.toNat aE) ((List.getD aY (Int.toNat aE) au).1,((List.getD aY (Int.toNat aE) au).2.1,((List.getD aY (Int.toNat aE) au).2.2.1,((IntKind.wrap .i64 ((List.getD aY (Int.toNat aE) au).2.2.2.1+a5)),(List.getD aY (Int.toNat aE) au).2.2.2.2))))) (Int.toNat aE) ((List.getD (List.set aY (Int.toNat aE) ((List.getD aY (Int.toNat aE) au).1,((List.getD aY (Int.toNat aE) au).2.1,((List.getD aY (Int.toNat aE) au).2.2.1,((IntKind.wrap .i64 ((List.getD aY (Int.toNat aE) au).2.2.2.1+a5)),(List.getD aY (Int.toNat aE) au).2.2.2.2))))) (Int.toNat aE) au).1,((List.getD (List.set aY (Int.toNat aE) ((List.getD aY (Int.toNat aE) au).1,((List.getD aY (Int.toNat aE) au).2.1,((List.getD aY (Int.toNat aE) au).2.2.1,((IntKind.wrap .i64 ((List.getD aY (Int.toNat aE) au).2.2.2.1+a5)),(List.getD aY (Int.toNat aE) au).2.2.2.2))))) (Int.toNat aE) au).2.1,((IntKind.wrap .i64 ((List.getD (List.set aY (Int.toNat aE) ((List.getD aY (Int.toNat aE) au).1,((List.getD aY (Int.toNat aE) au).2.1,((List.getD aY (Int.toNat aE) au).2.2.1,((IntKind.wrap .i64 ((List.getD aY (Int.toNat aE) au).2.2.2.1+a5)),(List.getD aY (Int.toNat aE) au).2.2.2.2))))) (Int.toNat aE) au).2.2.1+(1:Int))),(List.getD (List.set aY (Int.toNat aE) ((List.getD aY (Int.toNat aE) au).1,((List.getD aY (Int.toNat aE) au).2.1,((List.getD aY (Int.toNat aE) au).2.2.1,((IntKind.wrap .i64 ((List.getD aY (Int.toNat aE) au).2.2.2.1+a5)),(List.getD aY (Int.toNat aE) au).2.2.2.2))))) (Int.toNat aE) au).2.2.2)))) (fun aul=>
                                   Dk N a0 kf aul)
                                 else none
                                else none
                              else none
                             else none)
                           else none
                          else none
                         else none
                        else none)
                      else none
                     else none
                    else none
                   else none
                  else none
                 else none
                else none
               else none)))))))
noncomputable def sV (a0:(List Int)) (a1:Int) (kf:(List Int)→Option aa) (mG:Int):Option aa:=
 bif (decide ((0:Int)≤(0:Int))&&decide ((0:Int)≤mG)&&decide (mG≤(List.length a0:Int))) then
  bif (decide ((0:Int)≤mG)&&decide (mG≤(List.length a0:Int))&&decide ((List.length a0:Int)≤(List.length a0:Int))) then
   bif (decide ((List.length ([]:(List Int))+List.length (List.drop (Int.toNat (0:Int)) (List.take (Int.toNat mG) a0)))*1≤4398046511104)) then
    bif (decide ((List.length (([]:(List Int))++(List.drop (Int.toNat (0:Int)) (List.take (Int.toNat mG) a0)))+List.length [a1])*1≤4398046511104)) then
     bif (decide ((List.length ((([]:(List Int))++(List.drop (Int.toNat (0:Int)) (List.take (Int.toNat mG) a0)))++[a1])+List.length (List.drop (Int.toNat mG) (List.take (Int.toNat (List.length a0:Int)) a0)))*1≤4398046511104)) then
      kf (((([]:(List Int))++(List.drop (Int.toNat (0:Int)) (List.take (Int.toNat mG) a0)))++[a1])++(List.drop (Int.toNat mG) (List.take (Int.toNat (List.length a0:Int)) a0)))
     else none
    else none
   else none
  else none
 else none
noncomputable def p7 (ab:(List Int)) (aj:Int):Nat→(Int→Option aa)→Int→Option aa
 |0,_,_=>none
 |fz+1,bq,ak=>
  bif (decide (ak<(List.length ab:Int))) then
   bif (aN ak (List.length ab)) then
    bif (decide ((List.getD ab (Int.toNat ak) (0:Int))<aj)) then
     (p7 ab aj fz bq) (IntKind.wrap .i64 (ak+(1:Int)))
    else
     bq ak
   else none
  else
   bq ak
noncomputable def u5 (N:Nat) (a0:(List Int)) (a1:Int) (kf:(List Int)→Option aa):Option aa:=
 p7 a0 a1 N (fun mG=>
  bif (decide (mG<(List.length a0:Int))) then
   bif (aN mG (List.length a0)) then
    bif ((List.getD a0 (Int.toNat mG) (0:Int))==a1) then
     bif (decide ((List.length ([]:(List Int))+List.length a0)*1≤4398046511104)) then
      kf (([]:(List Int))++a0)
     else none
    else
     sV a0 a1 kf mG
   else none
  else
   sV a0 a1 kf mG) (0:Int)
noncomputable def rF (N:Nat) (eY:QC) (aeu:QC):Nat→(QC→Bool→Option aa)→QC→Bool→Int→Option aa
 |0,_,_,_,_=>none
 |ZR+1,p8,dO,xt,mm=>
  bif (decide (mm<(List.length eY.2.2.1:Int))) then
   bif (aN mm (List.length eY.2.2.2.2.1)) then
    bif (aN mm (List.length eY.2.2.1)) then
     bif (aN mm (List.length eY.2.2.1)) then
      aac N [(List.getD eY.2.2.2.2.1 (Int.toNat mm) fp)] (fun Fb=>
       aad N dO.1 (List.getD eY.2.2.1 (Int.toNat mm) cA).1 (List.getD eY.2.2.1 (Int.toNat mm) cA).2 Fb (List.getD eY.2.2.2.2.1 (Int.toNat mm) fp).2.1 (List.getD eY.2.2.2.2.1 (Int.toNat mm) fp).2.2 (fun rG ph=>
        bif xt then
         bif (aN mm (List.length eY.2.2.2.1)) then
          E7 N dO.2.1 (List.getD eY.2.2.2.1 (Int.toNat mm) (0:Int)) (fun eT=>
           bif (aN eT (List.length dO.2.1)) then
            bif (aN mm (List.length eY.2.2.1)) then
             bif (aN mm (List.length eY.2.2.1)) then
              u5 N (List.getD dO.2.1 (Int.toNat eT) b9).2.2 (List.getD eY.2.2.1 (Int.toNat mm) cA).1 (fun Fe=>
               u5 N Fe (List.getD eY.2.2.1 (Int.toNat mm) cA).2 (fun xu=>
                bif (aN eT (List.length dO.2.1)) then
                 (rF N eY aeu ZR p8) (rG,((List.set dO.2.1 (Int.toNat eT) ((List.getD dO.2.1 (Int.toNat eT) b9).1,((List.getD dO.2.1 (Int.toNat eT) b9).2.1,xu))),dO.2.2)) ph (IntKind.wrap .i64 (mm+(1:Int)))
                else none))
             else none
            else none
           else none)
         else none
        else
         bif (aN mm (List.length eY.2.2.2.1)) then
          E7 N dO.2.1 (List.getD eY.2.2.2.1 (Int.toNat mm) (0:Int)) (fun eU=>
           bif (aN eU (List.length dO.2.1)) then
            bif (aN mm (List.length eY.2.2.1)) then
             bif (aN mm (List.length eY.2.2.1)) then
              u5 N (List.getD dO.2.1 (Int.toNat eU) b9).2.2 (List.getD eY.2.2.1 (Int.toNat mm) cA).1 (fun uP=>
               u5 N uP (List.getD eY.2.2.1 (Int.toNat mm) cA).2 (fun xv=>
                bif (aN eU (List.length dO.2.1)) then
                 (rF N eY aeu ZR p8) (rG,((List.set dO.2.1 (Int.toNat eU) ((List.getD dO.2.1 (Int.toNat eU) b9).1,((List.getD dO.2.1 (Int.toNat eU) b9).2.1,xv))),dO.2.2)) false (IntKind.wrap .i64 (mm+(1:Int)))
                else none))
             else none
            else none
           else none)
         else none))
     else none
    else none
   else none
  else
   p8 dO xt
noncomputable def S27 (N:Nat) (a0:QC) (kf:QC→Bool→Option aa):Option aa:=
 Wx N a0 (fun qv=>
  SA N a0 (fun cj=>
   bif (!cj) then
    kf qv false
   else
    S94 N a0 (fun ER=>
     bif (!ER) then
      kf qv false
     else
      akg N a0 (fun HB=>
       bif (decide ((List.length HB:Int)>(0:Int))) then
        kf qv false
       else
        rF N a0 (([]:(List QT)),(([]:(List QJ)),(([]:(List a7)),(([]:(List Int)),(([]:(List QB)),(([]:(List QL)),(0:Int))))))) N (fun aev ay0=>
         S93 N a0 (aev.1,(aev.2.1,(([]:(List a7)),(([]:(List Int)),(([]:(List QB)),(aev.2.2.2.2.2.1,(IntKind.wrap .i64 (a0.2.2.2.2.2.2+(List.length a0.2.2.1:Int))))))))) ay0 (5:Int) (0:Int) kf) qv true (0:Int)))))
noncomputable def nb (aj:Int) (fy:Int) (cI:QC) (I5:QC) (I6:QC):Nat→(Int→Option aa)→Int→Option aa
 |0,_,_=>none
 |n_8+1,cl,AB=>
  bif (decide (AB<(List.length cI.1:Int))) then
   bif (aN AB (List.length cI.1)) then
    bif (decide ((List.getD cI.1 (Int.toNat AB) au).1<aj)) then
     (nb aj fy cI I5 I6 n_8 cl) (IntKind.wrap .i64 (AB+(1:Int)))
    else
     cl AB
   else none
  else
   cl AB
noncomputable def akj (N:Nat) (a0:QC) (a1:Int) (a2:Int) (kf:QC→Bool→Option aa):Option aa:=
 Wx N a0 (fun cH=>
  nb a1 a2 a0 (([]:(List QT)),(([]:(List QJ)),(([]:(List a7)),(([]:(List Int)),(([]:(List QB)),(([]:(List QL)),(0:Int))))))) cH N (fun og=>
   bif (decide ((0:Int)≤(0:Int))&&decide ((0:Int)≤og)&&decide (og≤(List.length a0.1:Int))) then
    E4 N (List.drop (Int.toNat (0:Int)) (List.take (Int.toNat og) a0.1)) (fun u6=>
     bif (decide ((List.length u6+List.length [(a1,(a2,((0:Int),((0:Int),((0:Int),([]:(List Int)))))))])*6≤4398046511104)) then
      bif (decide ((0:Int)≤og)&&decide (og≤(List.length a0.1:Int))&&decide ((List.length a0.1:Int)≤(List.length a0.1:Int))) then
       E4 N (List.drop (Int.toNat og) (List.take (Int.toNat (List.length a0.1:Int)) a0.1)) (fun Ff=>
        bif (decide ((List.length (u6++[(a1,(a2,((0:Int),((0:Int),((0:Int),([]:(List Int)))))))])+List.length Ff)*6≤4398046511104)) then
         S94 N a0 (fun aum=>
          S93 N a0 (((u6++[(a1,(a2,((0:Int),((0:Int),((0:Int),([]:(List Int)))))))])++Ff),cH.2) (!aum) (1:Int) a1 kf)
        else none)
      else none
     else none)
   else none) (0:Int))
noncomputable def nc (aj:Int) (fy:Int) (cI:QC) (I5:QC) (I6:QC):Nat→(Int→Option aa)→Int→Option aa
 |0,_,_=>none
 |n_8+1,cl,AB=>
  bif (decide (AB<(List.length cI.2.1:Int))) then
   bif (aN AB (List.length cI.2.1)) then
    bif (decide ((List.getD cI.2.1 (Int.toNat AB) b9).1<aj)) then
     (nc aj fy cI I5 I6 n_8 cl) (IntKind.wrap .i64 (AB+(1:Int)))
    else
     cl AB
   else none
  else
   cl AB
noncomputable def akk (N:Nat) (a0:QC) (a1:Int) (a2:Int) (kf:QC→Bool→Option aa):Option aa:=
 Wx N a0 (fun cH=>
  nc a1 a2 a0 (([]:(List QT)),(([]:(List QJ)),(([]:(List a7)),(([]:(List Int)),(([]:(List QB)),(([]:(List QL)),(0:Int))))))) cH N (fun og=>
   bif (decide ((0:Int)≤(0:Int))&&decide ((0:Int)≤og)&&decide (og≤(List.length a0.2.1:Int))) then
    Sm N (List.drop (Int.toNat (0:Int)) (List.take (Int.toNat og) a0.2.1)) (fun u6=>
     bif (decide ((List.length u6+List.length [(a1,(a2,([]:(List Int))))])*3≤4398046511104)) then
      bif (decide ((0:Int)≤og)&&decide (og≤(List.length a0.2.1:Int))&&decide ((List.length a0.2.1:Int)≤(List.length a0.2.1:Int))) then
       Sm N (List.drop (Int.toNat og) (List.take (Int.toNat (List.length a0.2.1:Int)) a0.2.1)) (fun Ff=>
        bif (decide ((List.length (u6++[(a1,(a2,([]:(List Int))))])+List.length Ff)*3≤4398046511104)) then
         S93 N a0 (cH.1,(((u6++[(a1,(a2,([]:(List Int))))])++Ff),cH.2.2)) true (2:Int) a1 kf
        else none)
      else none
     else none)
   else none) (0:Int))
noncomputable def akl (N:Nat) (a0:QC) (a1:Int) (a2:Int) (a3:Int) (kf:QC→Bool→Option aa):Option aa:=
 Wx N a0 (fun ee=>
  SA N a0 (fun oa=>
   bif (!oa) then
    kf ee false
   else
    gn N a1 (0:Int) (IntKind.wrap .i64 ((List.length a0.2.2.1:Int) - (1:Int))) (fun aE=>
     bif (!aE) then
      kf ee false
     else
      bif (aN a1 (List.length a0.2.2.2.2.1)) then
       bif (!((decide (((List.getD a0.2.2.2.2.1 (Int.toNat a1) fp).1:Int)=(0:Int)))&&((decide (((List.getD a0.2.2.2.2.1 (Int.toNat a1) fp).2.1:Int)=(0:Int)))&&(decide (((List.getD a0.2.2.2.2.1 (Int.toNat a1) fp).2.2:Int)=(0:Int)))))) then
        kf ee false
       else
        bif (aN a1 (List.length a0.2.2.2.1)) then
         bif (aN a1 (List.length ee.2.2.2.2.1)) then
          bif (aN a1 (List.length (List.set ee.2.2.2.2.1 (Int.toNat a1) ((List.getD a0.2.2.2.1 (Int.toNat a1) (0:Int)),(a2,a3))))) then
           bif (aN a1 (List.length a0.2.2.2.1)) then
            NA N (List.getD (List.set ee.2.2.2.2.1 (Int.toNat a1) ((List.getD a0.2.2.2.1 (Int.toNat a1) (0:Int)),(a2,a3))) (Int.toNat a1) fp) (fun aec=>
             S93 N a0 (ee.1,(ee.2.1,(ee.2.2.1,(ee.2.2.2.1,((List.set ee.2.2.2.2.1 (Int.toNat a1) ((List.getD a0.2.2.2.1 (Int.toNat a1) (0:Int)),(a2,a3))),ee.2.2.2.2.2))))) aec (4:Int) (List.getD a0.2.2.2.1 (Int.toNat a1) (0:Int)) kf)
           else none
          else none
         else none
        else none
      else none)))
noncomputable def akm (N:Nat) (a0:QC) (a1:Int) (kf:QC→Bool→Option aa):Option aa:=
 Wx N a0 (fun kt=>
  uY N a0.1 a1 (fun fQ=>
   bif (decide (fQ<(0:Int))) then
    kf kt false
   else
    S94 N a0 (fun ER=>
     bif ER then
      kf kt false
     else
      bif (aN fQ (List.length a0.1)) then
       bif (decide ((List.length (List.getD a0.1 (Int.toNat fQ) au).2.2.2.2.2:Int)>(0:Int))) then
        kf kt false
       else
        bif (decide ((0:Int)≤(0:Int))&&decide ((0:Int)≤fQ)&&decide (fQ≤(List.length a0.1:Int))) then
         bif (decide ((0:Int)≤(IntKind.wrap .i64 (fQ+(1:Int))))&&decide ((IntKind.wrap .i64 (fQ+(1:Int)))≤(List.length a0.1:Int))&&decide ((List.length a0.1:Int)≤(List.length a0.1:Int))) then
          E4 N (List.drop (Int.toNat (0:Int)) (List.take (Int.toNat fQ) a0.1)) (fun ar6=>
           E4 N (List.drop (Int.toNat (IntKind.wrap .i64 (fQ+(1:Int)))) (List.take (Int.toNat (List.length a0.1:Int)) a0.1)) (fun Cs=>
            bif (decide ((List.length ar6+List.length Cs)*6≤4398046511104)) then
             S93 N a0 ((ar6++Cs),kt.2) true (6:Int) a1 kf
            else none))
         else none
        else none
      else none)))
noncomputable def S60 (N:Nat) (a0:QC) (a1:QL) (kf:QC→Bool→Option aa):Option aa:=
 bif (a1.1==(1:Int)) then
  akj N a0 a1.2.1 a1.2.2.1 kf
 else
  bif (a1.1==(2:Int)) then
   akk N a0 a1.2.1 a1.2.2.1 kf
  else
   bif (a1.1==(3:Int)) then
    S21 N a0 kf
   else
    bif (a1.1==(4:Int)) then
     akl N a0 a1.2.2.2 a1.2.1 a1.2.2.1 kf
    else
     bif (a1.1==(5:Int)) then
      S27 N a0 kf
     else
      bif (a1.1==(6:Int)) then
       akm N a0 a1.2.1 kf
      else
       Wx N a0 (fun Sl=>
        kf Sl false)
noncomputable def L61 (N:Nat) (a0:QL) (kf:QL→Option aa):Option aa:=
 kf (a0.1,(a0.2.1,(a0.2.2.1,a0.2.2.2)))
noncomputable def L9 (N:Nat) (a0:QC) (a1:QL) (kf:Bool→Option aa):Option aa:=
 L20 N a0 (1048576:Int) (fun aD=>
  bif (decide (aD<(0:Int))) then
   kf true
  else
   L22 N a0 (fun ay1=>
    L61 N a1 (fun ay2=>
     S60 N ay1 ay2 (fun kx Nr=>
      L22 N a0 (fun aew=>
       L61 N a1 (fun E6=>
        I13 N aew E6 (fun NF ar7=>
         L24 N NF kx (fun aun=>
          bif (!aun) then
           kf false
          else
           bif (!(ar7==Nr)) then
            kf false
           else
            L22 N a0 (fun auo=>
             L24 N aew auo (fun aup=>
              bif (!aup) then
               kf false
              else
               L25 N aew (1:Int) (fun auq aAd=>
                bif (decide (auq<(0:Int))) then
                 kf false
                else
                 L24 N NF kx (fun aur=>
                  bif (!aur) then
                   kf false
                  else
                   bif (!(ar7==Nr)) then
                    kf false
                   else
                    L25 N NF (1:Int) (fun aex qw=>
                     L26 N (qw.1,(qw.2.1,(qw.2.2.1,(qw.2.2.2.1,(qw.2.2.2.2.1,(qw.2.2.2.2.2.1,NF.2.2.2.2.2.2)))))) (1:Int) (fun aey=>
                      bif (decide (aey<(0:Int))) then
                       kf false
                      else
                       bif (aey != aex) then
                        kf false
                       else
                        L22 N a0 (fun aus=>
                         L61 N a1 (fun aut=>
                          I13 N aus aut (fun auu auv=>
                           L24 N auu kx (fun auw=>
                            bif (!auw) then
                             kf false
                            else
                             bif (!(auv==Nr)) then
                              kf false
                             else
                              L26 N (qw.1,(qw.2.1,(qw.2.2.1,(qw.2.2.2.1,(qw.2.2.2.2.1,(qw.2.2.2.2.2.1,NF.2.2.2.2.2.2)))))) (1:Int) (fun aez=>
                               bif (decide (aez<(0:Int))) then
                                kf false
                               else
                                bif (aez != aex) then
                                 kf false
                                else
                                 kf true)))))))))))))))))))
end Go.Pv.R
