/- What the functions compute, as plain functions. -/
import Derived.Test.YtafpcididdbipaaGreatDoorPv5
set_option linter.unusedSimpArgs false
set_option linter.unusedVariables false
noncomputable section
namespace Go.Pv.R
open List Int IntKind
abbrev tI:Ty:=(.pair (.int .i64) (.pair (.int .i64) (.sl (.int .i64))))
abbrev QJ:Type:=(Int×(Int×(List Int)))
def dY:QJ:=((0:Int),((0:Int),([]:(List Int))))
abbrev gm:Ty:=(.pair (.int .i64) (.pair (.int .i64) (.pair (.int .i64) (.pair (.int .i64) (.pair (.int .i64) (.sl (.int .i64)))))))
abbrev QT:Type:=(Int×(Int×(Int×(Int×(Int×(List Int))))))
def an:QT:=((0:Int),((0:Int),((0:Int),((0:Int),((0:Int),([]:(List Int)))))))
abbrev ib:Ty:=(.pair (.int .i64) (.int .i64))
abbrev bE:Type:=(Int×Int)
def ff:bE:=((0:Int),(0:Int))
abbrev It:Ty:=(.pair (.int .i64) (.pair (.int .i64) (.int .i64)))
abbrev QB:Type:=(Int×(Int×Int))
def oO:QB:=((0:Int),((0:Int),(0:Int)))
abbrev QS:Ty:=(.pair (.int .i64) (.pair (.int .i64) (.pair (.int .i64) (.int .i64))))
abbrev QL:Type:=(Int×(Int×(Int×Int)))
def Od:QL:=((0:Int),((0:Int),((0:Int),(0:Int))))
abbrev gn:Ty:=(.pair (.sl (.int .u8)) (.pair (.int .i64) (.int .i64)))
abbrev jX:Type:=((List Int)×(Int×Int))
abbrev fg:Ty:=(.pair (.sl gm) (.pair (.sl tI) (.pair (.sl ib) (.pair (.sl (.int .i64)) (.pair (.sl It) (.pair (.sl QS) (.int .i64)))))))
abbrev QC:Type:=((List QT)×((List QJ)×((List bE)×((List Int)×((List QB)×((List QL)×Int))))))
abbrev cy:Ty:=(.pair (.int .i64) (.sl (.sl (.int .i64))))
abbrev dG:Type:=(Int×(List (List Int)))
def EY:ByteArray:=⟨#[]⟩
def Vz:ByteArray:=⟨#[110,101,119]⟩
def mv:ByteArray:=⟨#[106,111,105,110,32,50,32,49]⟩
def mw:ByteArray:=⟨#[106,111,105,110,32,52,32,50]⟩
def za:ByteArray:=⟨#[106,111,105,110,32,54,32,49]⟩
def zb:ByteArray:=⟨#[106,111,105,110,32,56,32,51]⟩
def zd:ByteArray:=⟨#[106,111,105,110,32,48,32,49]⟩
def jo:ByteArray:=⟨#[106,117,100,103,101,32,49,49,32,52]⟩
def td:ByteArray:=⟨#[106,117,100,103,101,32,49,50,32,53]⟩
def th:ByteArray:=⟨#[106,117,100,103,101,32,49,49,32,49]⟩
def KL:ByteArray:=⟨#[112,97,105,114]⟩
def mg:ByteArray:=⟨#[98,97,108,108,111,116,32,48,32,55,48,32,54,48]⟩
def mh:ByteArray:=⟨#[98,97,108,108,111,116,32,49,32,54,49,32,54,54]⟩
def mj:ByteArray:=⟨#[98,97,108,108,111,116,32,48,32,55,48,32,55,48]⟩
def pn:ByteArray:=⟨#[98,97,108,108,111,116,32,53,32,49,32,50]⟩
def Mo:ByteArray:=⟨#[99,108,111,115,101]⟩
def BR:ByteArray:=⟨#[108,101,97,118,101,32,56]⟩
def BS:ByteArray:=⟨#[108,101,97,118,101,32,50]⟩
def lW:ByteArray:=⟨#[115,116,97,110,100,105,110,103]⟩
def xC:ByteArray:=⟨#[116,101,97,109,115]⟩
def xD:ByteArray:=⟨#[114,111,117,110,100]⟩
def oP:ByteArray:=⟨#[119,97,105,116,105,110,103]⟩
def ue:ByteArray:=⟨#[99,108,117,98]⟩
def qx:ByteArray:=⟨#[97,117,100,105,116]⟩
def jw:ByteArray:=⟨#[103,114,111,117,110,100,101,100]⟩
def fS:ByteArray:=⟨#[112,114,101,102,101,114,114,101,100]⟩
def JO:ByteArray:=⟨#[119,105,110,32,48]⟩
def lX:ByteArray:=⟨#[119,105,110,32,51]⟩
def JP:ByteArray:=⟨#[119,105,110,32,57]⟩
def np:ByteArray:=⟨#[97,108,119,97,121,115,32,40,97,124,33,97,41]⟩
def ze:ByteArray:=⟨#[97,108,119,97,121,115,32,97]⟩
def cB:ByteArray:=⟨#[114,111,119,115,32,40,97,38,98,41]⟩
def FW:ByteArray:=⟨#[114,111,119,115,32,103]⟩
def Se:ByteArray:=⟨#[97,108,119,97,121,115]⟩
def oZ:ByteArray:=⟨#[119,104,97,116]⟩
def FX:ByteArray:=⟨#[106,111,105,110,32,50]⟩
def zf:ByteArray:=⟨#[106,111,105,110,32,120,32,49]⟩
def FY:ByteArray:=⟨#[112,97,105,114,32,49]⟩
def BT:ByteArray:=⟨#[32]⟩
def ahG:ByteArray:=⟨#[114,111,119,115]⟩
def xb:ByteArray:=⟨#[38,124,62]⟩
def Sf:ByteArray:=⟨#[97,98,99,100,101,102]⟩
def amM:ByteArray:=⟨#[33]⟩
def VA:ByteArray:=⟨#[40]⟩
def ahH:ByteArray:=⟨#[41]⟩
def amN:ByteArray:=⟨#[121,101,115]⟩
def WN:ByteArray:=⟨#[110,111]⟩
def WO:ByteArray:=⟨#[108,101,97,118,101]⟩
def PX:ByteArray:=⟨#[119,105,110]⟩
def abK:ByteArray:=⟨#[106,111,105,110]⟩
def WQ:ByteArray:=⟨#[106,117,100,103,101]⟩
def Y8:ByteArray:=⟨#[98,97,108,108,111,116]⟩
def aL:ByteArray:=⟨#[0,1,2,2,3,3,3,3,4,4,4,4,4,4,4,4,5,5,5,5,5,5,5,5,5,5,5,5,5,5,5,5,6,6,6,6,6,6,6,6,6,6,6,6,6,6,6,6,6,6,6,6,6,6,6,6,6,6,6,6,6,6,6,6,7,7,7,7,7,7,7,7,7,7,7,7,7,7,7,7,7,7,7,7,7,7,7,7,7,7,7,7,7,7,7,7,7,7,7,7,7,7,7,7,7,7,7,7,7,7,7,7,7,7,7,7,7,7,7,7,7,7,7,7,7,7,7,7,8,8,8,8,8,8,8,8,8,8,8,8,8,8,8,8,8,8,8,8,8,8,8,8,8,8,8,8,8,8,8,8,8,8,8,8,8,8,8,8,8,8,8,8,8,8,8,8,8,8,8,8,8,8,8,8,8,8,8,8,8,8,8,8,8,8,8,8,8,8,8,8,8,8,8,8,8,8,8,8,8,8,8,8,8,8,8,8,8,8,8,8,8,8,8,8,8,8,8,8,8,8,8,8,8,8,8,8,8,8,8,8,8,8,8,8,8,8,8,8,8,8,8,8,8,8,8,8]⟩
def oc:ByteArray:=⟨#[45]⟩
def uf:ByteArray:=⟨#[58]⟩
def Ay:ByteArray:=⟨#[47]⟩
def Hg:ByteArray:=⟨#[61]⟩
def PY:ByteArray:=⟨#[63]⟩
def Az:ByteArray:=⟨#[64]⟩
def aqD:ByteArray:=⟨#[44]⟩
def adO:ByteArray:=⟨#[123]⟩
def ahI:ByteArray:=⟨#[125]⟩
def afu:ByteArray:=⟨#[114,101,109,97,116,99,104]⟩
def afv:ByteArray:=⟨#[109,105,110,117,116,101,115]⟩
def aqE:ByteArray:=⟨#[115,117,109]⟩
def Y9:ByteArray:=⟨#[111,107]⟩
def adP:ByteArray:=⟨#[62]⟩
def aR:ByteArray:=⟨#[53,32,48,62,49,32,49,62,48,32,49,62,50,32,50,62,51,32,51,62,52,32,52,62,50]⟩
def xE:ByteArray:=⟨#[99,108,117,98,10]⟩
def bD:ByteArray:=⟨#[106,111,105,110,32,50,32,49,10,106,111,105,110,32,52,32,50,10,106,117,100,103,101,32,49,49,32,52,10,112,97,105,114,10]⟩
def PZ:ByteArray:=⟨#[10]⟩
def Dn (N:Nat) (a0:(List Int)) (kf:Bool->Option aa):Option aa:=
 kf (decide ((length a0:Int)>(1048576:Int)))
def oQ (ae:(List Int)):Nat->(Int->Option aa)->Int->Int->Option aa
 |0,_,_,_=>none
 |Iu+1,pW,ao,bV=>
  bif (decide (bV<(length ae:Int))) then
   bif (decide (bV<(4000:Int))) then
    bif (aD bV (length ae)) then
     (oQ ae Iu pW) (wrap .i64 (BitVec.toNat (BitVec.ofInt (IntKind.bits .i64) (wrap .i64 ((wrap .i64 ((wrap .i64 (ao*(137:Int)))+(wrap .i64 (getD ae (toNat bV) (0:Int)))))+(11:Int)))&&&BitVec.ofInt (IntKind.bits .i64) (1073741823:Int)))) (wrap .i64 (bV+(1:Int)))
    else none
   else
    pW ao
  else
   pW ao
def EZ (N:Nat) (a0:(List Int)) (kf:jX->Option aa):Option aa:=
 oQ a0 N (λata=>
  kf (a0,((0:Int),ata))) (wrap .i64 ((193017:Int)+(length a0:Int))) (0:Int)
def E0 (N:Nat) (kf:QC->Option aa):Option aa:=
 kf (([]:(List QT)),(([]:(List QJ)),(([]:(List bE)),(([]:(List Int)),(([]:(List QB)),(([]:(List QL)),(0:Int)))))))
def pX (N:Nat) (a0:jX) (kf:Int->jX->Option aa):Option aa:=
 share (wrap .i64 ((wrap .i64 (a0.2.2*(6364136223846793005:Int)))+(1442695040888963407:Int))) (λafw=>
  bif (decide (0<=(33:Int))) then
   bif (decide (0<=(47:Int))) then
    bif (decide (a0.2.1<(length a0.1:Int))) then
     bif (aD a0.2.1 (length a0.1)) then
      kf (wrap .i64 (BitVec.toNat (BitVec.ofInt (IntKind.bits .i64) (wrap .i64 ((wrap .i64 (BitVec.toNat (BitVec.ofInt (IntKind.bits .i64) (wrap .i64 (BitVec.toNat (BitVec.ofInt (IntKind.bits .i64) (Int.fdiv afw (2^(min (toNat (33:Int)) (IntKind.bits .i64))))^^^BitVec.ofInt (IntKind.bits .i64) (Int.fdiv afw (2^(min (toNat (47:Int)) (IntKind.bits .i64)))))))&&&BitVec.ofInt (IntKind.bits .i64) (255:Int))))+(wrap .i64 (getD a0.1 (toNat a0.2.1) (0:Int)))))&&&BitVec.ofInt (IntKind.bits .i64) (255:Int)))) (a0.1,((wrap .i64 (a0.2.1+(1:Int))),afw))
     else none
    else
     kf (wrap .i64 (BitVec.toNat (BitVec.ofInt (IntKind.bits .i64) (wrap .i64 (BitVec.toNat (BitVec.ofInt (IntKind.bits .i64) (Int.fdiv afw (2^(min (toNat (33:Int)) (IntKind.bits .i64))))^^^BitVec.ofInt (IntKind.bits .i64) (Int.fdiv afw (2^(min (toNat (47:Int)) (IntKind.bits .i64)))))))&&&BitVec.ofInt (IntKind.bits .i64) (255:Int)))) (a0.1,(a0.2.1,afw))
   else none
  else none)
def b7 (N:Nat) (a0:jX) (a1:Int) (kf:Int->jX->Option aa):Option aa:=
 bif (decide (a1<=(0:Int))) then
  kf (0:Int) a0
 else
  bif (decide (a1<=(256:Int))) then
   pX N a0 (λic abL=>
    bif (!decide (a1=0)) then
     kf (Int.tmod ic a1) abL
    else none)
  else
   pX N a0 (λaqF atb=>
    pX N atb (λahJ atc=>
     pX N atc (λY' akS=>
      bif (!decide (a1=0)) then
       kf (Int.tmod (wrap .i64 ((wrap .i64 ((wrap .i64 (aqF*(65536:Int)))+(wrap .i64 (ahJ*(256:Int)))))+Y')) a1) akS
      else none)))
def jx (ae:(List QT)):Nat->((List QT)->Option aa)->(List QT)->Int->Option aa
 |0,_,_,_=>none
 |Iu+1,pW,ao,bV=>
  bif (decide (bV<(length ae:Int))) then
   bif (aD bV (length ae)) then
    bif (decide ((length ([]:(List Int))+length (getD ae (toNat bV) an).2.2.2.2.2)*1<=4398046511104)) then
     bif (decide ((length ao+length [((getD ae (toNat bV) an).1,((getD ae (toNat bV) an).2.1,((getD ae (toNat bV) an).2.2.1,((getD ae (toNat bV) an).2.2.2.1,((getD ae (toNat bV) an).2.2.2.2.1,(([]:(List Int))++(getD ae (toNat bV) an).2.2.2.2.2))))))])*6<=4398046511104)) then
      (jx ae Iu pW) (ao++[((getD ae (toNat bV) an).1,((getD ae (toNat bV) an).2.1,((getD ae (toNat bV) an).2.2.1,((getD ae (toNat bV) an).2.2.2.1,((getD ae (toNat bV) an).2.2.2.2.1,(([]:(List Int))++(getD ae (toNat bV) an).2.2.2.2.2))))))]) (wrap .i64 (bV+(1:Int)))
     else none
    else none
   else none
  else
   pW ao
def jY (N:Nat) (a0:(List QT)) (kf:(List QT)->Option aa):Option aa:=
 jx a0 N kf ([]:(List QT)) (0:Int)
def gA (ae:(List QJ)):Nat->((List QJ)->Option aa)->(List QJ)->Int->Option aa
 |0,_,_,_=>none
 |Iu+1,pW,ao,bV=>
  bif (decide (bV<(length ae:Int))) then
   bif (aD bV (length ae)) then
    bif (decide ((length ([]:(List Int))+length (getD ae (toNat bV) dY).2.2)*1<=4398046511104)) then
     bif (decide ((length ao+length [((getD ae (toNat bV) dY).1,((getD ae (toNat bV) dY).2.1,(([]:(List Int))++(getD ae (toNat bV) dY).2.2)))])*3<=4398046511104)) then
      (gA ae Iu pW) (ao++[((getD ae (toNat bV) dY).1,((getD ae (toNat bV) dY).2.1,(([]:(List Int))++(getD ae (toNat bV) dY).2.2)))]) (wrap .i64 (bV+(1:Int)))
     else none
    else none
   else none
  else
   pW ao
def kH (N:Nat) (a0:(List QJ)) (kf:(List QJ)->Option aa):Option aa:=
 gA a0 N kf ([]:(List QJ)) (0:Int)
def fq (N:Nat) (a0:QC) (kf:QC->Option aa):Option aa:=
 jY N a0.1 (λGA=>
  kH N a0.2.1 (λaob=>
   bif (decide ((length ([]:(List bE))+length a0.2.2.1)*2<=4398046511104)) then
    bif (decide ((length ([]:(List Int))+length a0.2.2.2.1)*1<=4398046511104)) then
     bif (decide ((length ([]:(List QB))+length a0.2.2.2.2.1)*3<=4398046511104)) then
      bif (decide ((length ([]:(List QL))+length a0.2.2.2.2.2.1)*4<=4398046511104)) then
       kf (GA,(aob,((([]:(List bE))++a0.2.2.1),((([]:(List Int))++a0.2.2.2.1),((([]:(List QB))++a0.2.2.2.2.1),((([]:(List QL))++a0.2.2.2.2.2.1),a0.2.2.2.2.2.2))))))
      else none
     else none
    else none
   else none))
def kI (N:Nat) (a0:QC) (kf:Bool->Option aa):Option aa:=
 kf (decide ((length a0.2.2.1:Int)>(0:Int)))
def CO (N:Nat) (a0:(List QL)) (kf:Int->Option aa):Option aa:=
 bif ((length a0:Int)==(0:Int)) then
  kf (0:Int)
 else
  bif (aD (wrap .i64 ((length a0:Int) - (1:Int))) (length a0)) then
   kf (getD a0 (toNat (wrap .i64 ((length a0:Int) - (1:Int)))) Od).2.2.2
  else none
def bn (N:Nat) (a0:Int) (a1:Int) (a2:Int) (kf:Bool->Option aa):Option aa:=
 bif (decide (a0≥a1)) then
  kf (decide (a0<=a2))
 else
  kf false
def Hi (N:Nat) (a0:Int) (a1:Int) (kf:Int->Option aa):Option aa:=
 bn N a1 (1:Int) (1000000000000:Int) (λaoc=>
  bif (!aoc) then
   kf (0:Int)
  else
   bif (!decide (a1=0)) then
    bif (!decide (a1=0)) then
     kf (Int.tmod (wrap .i64 ((Int.tmod a0 a1)+a1)) a1)
    else none
   else none)
def nD (N:Nat) (ae:(List Int)):Nat->(Int->Option aa)->Int->Int->Option aa
 |0,_,_,_=>none
 |Iu+1,iU,ao,bV=>
  bif (decide (bV<(length ae:Int))) then
   bif (aD bV (length ae)) then
    Hi N (getD ae (toNat bV) (0:Int)) (2147483647:Int) (λahK=>
     (nD N ae Iu iU) (Int.tmod (wrap .i64 ((wrap .i64 ((wrap .i64 (ao*(1000003:Int)))+ahK))+(13:Int))) (2147483647:Int)) (wrap .i64 (bV+(1:Int))))
   else none
  else
   iU ao
def Iv (N:Nat) (a0:(List Int)) (kf:Int->Option aa):Option aa:=
 nD N a0 N kf (11:Int) (0:Int)
def nE (N:Nat) (a0:Int) (a1:QL) (kf:Int->Option aa):Option aa:=
 Iv N [a0,a1.1,a1.2.1,a1.2.2.1] kf
def fL (N:Nat) (ae:(List QL)):Nat->(Option aa)->(Bool->Option aa)->Int->Int->Option aa
 |0,_,_,_,_=>none
 |Iu+1,fh,nF,ao,bV=>
  bif (decide (bV<(length ae:Int))) then
   bif (decide ((length ae:Int)<=(200:Int))) then
    bif (aD bV (length ae)) then
     nE N ao (getD ae (toNat bV) Od) (λJQ=>
      bif ((getD ae (toNat bV) Od).1 != (wrap .i64 (bV+(1:Int)))) then
       nF false
      else
       bn N (getD ae (toNat bV) Od).2.1 (1:Int) (9:Int) (λZa=>
        bif (!Za) then
         nF false
        else
         bn N (getD ae (toNat bV) Od).2.2.1 (0:Int) (99:Int) (λMp=>
          bif (!Mp) then
           nF false
          else
           bif ((getD ae (toNat bV) Od).2.2.2 != JQ) then
            nF false
           else
            (fL N ae Iu fh nF) JQ (wrap .i64 (bV+(1:Int))))))
    else none
   else
    fh
  else
   fh
def od (N:Nat) (a0:(List QL)) (kf:Bool->Option aa):Option aa:=
 fL N a0 N (kf (decide ((length a0:Int)<=(200:Int)))) kf (0:Int) (0:Int)
def ug (N:Nat) (a0:(List QL)) (a1:Int) (a2:Int) (kf:(List QL)->Bool->Option aa):Option aa:=
 CO N a0 (λZb=>
  nE N Zb ((wrap .i64 ((length a0:Int)+(1:Int))),(a1,(a2,(0:Int)))) (λMq=>
   bif (decide ((length ([]:(List QL))+length a0)*4<=4398046511104)) then
    bif (decide ((length (([]:(List QL))++a0)+length [((wrap .i64 ((length a0:Int)+(1:Int))),(a1,(a2,Mq)))])*4<=4398046511104)) then
     od N ((([]:(List QL))++a0)++[((wrap .i64 ((length a0:Int)+(1:Int))),(a1,(a2,Mq)))]) (λahL=>
      bif (!ahL) then
       bif (decide ((length ([]:(List QL))+length a0)*4<=4398046511104)) then
        kf (([]:(List QL))++a0) false
       else none
      else
       kf ((([]:(List QL))++a0)++[((wrap .i64 ((length a0:Int)+(1:Int))),(a1,(a2,Mq)))]) true)
    else none
   else none))
def iC (ae:(List QT)) (aj:Int):Nat->(Option aa)->(Int->Option aa)->Int->Option aa
 |0,_,_,_=>none
 |Iu+1,dq,gq,aY=>
  bif (decide (aY<(length ae:Int))) then
   bif (aD aY (length ae)) then
    bif ((getD ae (toNat aY) an).1==aj) then
     gq aY
    else
     (iC ae aj Iu dq gq) (wrap .i64 (aY+(1:Int)))
   else none
  else
   dq
def cH (N:Nat) (a0:(List QT)) (a1:Int) (kf:Int->Option aa):Option aa:=
 iC a0 a1 N (kf (-1:Int)) kf (0:Int)
def fT (ae:(List Int)) (aj:Int):Nat->(Int->Option aa)->Int->Int->Option aa
 |0,_,_,_=>none
 |po+1,bF,aY,o6=>
  bif (decide (o6<(length ae:Int))) then
   bif (aD o6 (length ae)) then
    bif ((getD ae (toNat o6) (0:Int))==aj) then
     (fT ae aj po bF) (wrap .i64 (aY+(1:Int))) (wrap .i64 (o6+(1:Int)))
    else
     (fT ae aj po bF) aY (wrap .i64 (o6+(1:Int)))
   else none
  else
   bF aY
def lY (N:Nat) (a0:(List Int)) (a1:Int) (kf:Int->Option aa):Option aa:=
 fT a0 a1 N kf (0:Int) (0:Int)
def cC (N:Nat) (Mr:(List QT)) (VB:Int) (mL:QT):Nat->(Option aa)->(Bool->Option aa)->Int->Option aa
 |0,_,_,_=>none
 |aod+1,Iw,xF,adQ=>
  bif (decide (adQ<(length mL.2.2.2.2.2:Int))) then
   bif (aD adQ (length mL.2.2.2.2.2)) then
    cH N Mr (getD mL.2.2.2.2.2 (toNat adQ) (0:Int)) (λxc=>
     bif (decide (xc<(0:Int))) then
      xF false
     else
      bif (xc==VB) then
       xF false
      else
       bif (aD xc (length Mr)) then
        bif (aD xc (length Mr)) then
         lY N (getD Mr (toNat xc) an).2.2.2.2.2 mL.1 (λWR=>
          lY N mL.2.2.2.2.2 (getD Mr (toNat xc) an).1 (λWS=>
           bif (WR != WS) then
            xF false
           else
            (cC N Mr VB mL aod Iw xF) (wrap .i64 (adQ+(1:Int)))))
        else none
       else none)
   else none
  else
   Iw
def fU (N:Nat) (ae:(List QT)):Nat->(Option aa)->(Bool->Option aa)->Int->Option aa
 |0,_,_,_=>none
 |n_3+1,E3,gB,ao=>
  bif (decide (ao<(length ae:Int))) then
   bif (aD ao (length ae)) then
    bn N (getD ae (toNat ao) an).1 (1:Int) (99:Int) (λSg=>
     bif (!Sg) then
      gB false
     else
      bn N (getD ae (toNat ao) an).2.1 (1:Int) (99:Int) (λSh=>
       bif (!Sh) then
        gB false
       else
        bn N (getD ae (toNat ao) an).2.2.1 (0:Int) (length (getD ae (toNat ao) an).2.2.2.2.2:Int) (λZc=>
         bif (!Zc) then
          gB false
         else
          bn N (getD ae (toNat ao) an).2.2.2.2.1 (0:Int) (length (getD ae (toNat ao) an).2.2.2.2.2:Int) (λahM=>
           bif (!ahM) then
            gB false
           else
            bn N (getD ae (toNat ao) an).2.2.2.1 (0:Int) (100000:Int) (λahN=>
             bif (!ahN) then
              gB false
             else
              bif (decide ((length (getD ae (toNat ao) an).2.2.2.2.2:Int)>(20:Int))) then
               gB false
              else
               bif (decide (ao>(0:Int))) then
                bif (aD (wrap .i64 (ao - (1:Int))) (length ae)) then
                 bif (decide ((getD ae (toNat (wrap .i64 (ao - (1:Int)))) an).1≥(getD ae (toNat ao) an).1)) then
                  gB false
                 else
                  cC N ae ao (getD ae (toNat ao) an) N ((fU N ae n_3 E3 gB) (wrap .i64 (ao+(1:Int)))) gB (0:Int)
                else none
               else
                cC N ae ao (getD ae (toNat ao) an) N ((fU N ae n_3 E3 gB) (wrap .i64 (ao+(1:Int)))) gB (0:Int))))))
   else none
  else
   E3
def bW (N:Nat) (a0:(List QT)) (kf:Bool->Option aa):Option aa:=
 fU N a0 N (kf (decide ((length a0:Int)<=(10:Int)))) kf (0:Int)
def bP (N:Nat) (iD:(List QJ)) (uh:Int):Nat->(Option aa)->(Bool->Option aa)->Int->Option aa
 |0,_,_,_=>none
 |n_9+1,E4,zR,Ms=>
  bif (aD uh (length iD)) then
   bif (decide (Ms<(length (getD iD (toNat uh) dY).2.2:Int))) then
    bif (aD uh (length iD)) then
     bif (aD Ms (length (getD iD (toNat uh) dY).2.2)) then
      bn N (getD (getD iD (toNat uh) dY).2.2 (toNat Ms) (0:Int)) (1:Int) (99:Int) (λabM=>
       bif (!abM) then
        zR false
       else
        bif (decide (Ms>(0:Int))) then
         bif (aD uh (length iD)) then
          bif (aD (wrap .i64 (Ms - (1:Int))) (length (getD iD (toNat uh) dY).2.2)) then
           bif (aD uh (length iD)) then
            bif (aD Ms (length (getD iD (toNat uh) dY).2.2)) then
             bif (decide ((getD (getD iD (toNat uh) dY).2.2 (toNat (wrap .i64 (Ms - (1:Int)))) (0:Int))≥(getD (getD iD (toNat uh) dY).2.2 (toNat Ms) (0:Int)))) then
              zR false
             else
              (bP N iD uh n_9 E4 zR) (wrap .i64 (Ms+(1:Int)))
            else none
           else none
          else none
         else none
        else
         (bP N iD uh n_9 E4 zR) (wrap .i64 (Ms+(1:Int))))
     else none
    else none
   else
    E4
  else none
def eP (N:Nat) (ae:(List QJ)):Nat->(Option aa)->(Bool->Option aa)->Int->Option aa
 |0,_,_,_=>none
 |n_3+1,E5,nG,ao=>
  bif (decide (ao<(length ae:Int))) then
   bif (aD ao (length ae)) then
    bn N (getD ae (toNat ao) dY).1 (1:Int) (99:Int) (λZd=>
     bif (!Zd) then
      nG false
     else
      bif (aD ao (length ae)) then
       bn N (getD ae (toNat ao) dY).2.1 (1:Int) (99:Int) (λSh=>
        bif (!Sh) then
         nG false
        else
         bif (decide (ao>(0:Int))) then
          bif (aD (wrap .i64 (ao - (1:Int))) (length ae)) then
           bif (aD ao (length ae)) then
            bif (decide ((getD ae (toNat (wrap .i64 (ao - (1:Int)))) dY).1≥(getD ae (toNat ao) dY).1)) then
             nG false
            else
             bP N ae ao N ((eP N ae n_3 E5 nG) (wrap .i64 (ao+(1:Int)))) nG (0:Int)
           else none
          else none
         else
          bP N ae ao N ((eP N ae n_3 E5 nG) (wrap .i64 (ao+(1:Int)))) nG (0:Int))
      else none)
   else none
  else
   E5
def mM (N:Nat) (a0:(List QJ)) (kf:Bool->Option aa):Option aa:=
 eP N a0 N (kf (decide ((length a0:Int)<=(10:Int)))) kf (0:Int)
def gC (N:Nat) (ae:(List QT)):Nat->(Int->Option aa)->Int->Int->Option aa
 |0,_,_,_=>none
 |Iu+1,iU,ao,bV=>
  bif (decide (bV<(length ae:Int))) then
   bW N ae (λahO=>
    bif ahO then
     bif (aD bV (length ae)) then
      (gC N ae Iu iU) (wrap .i64 (ao+(getD ae (toNat bV) an).2.2.1)) (wrap .i64 (bV+(1:Int)))
     else none
    else
     iU ao)
  else
   iU ao
def ui (N:Nat) (a0:(List QT)) (kf:Int->Option aa):Option aa:=
 gC N a0 N kf (0:Int) (0:Int)
def lZ (ae:(List Int)) (aj:Int):Nat->(Option aa)->(Bool->Option aa)->Int->Option aa
 |0,_,_,_=>none
 |Iu+1,dq,gq,aY=>
  bif (decide (aY<(length ae:Int))) then
   bif (aD aY (length ae)) then
    bif ((getD ae (toNat aY) (0:Int))==aj) then
     gq true
    else
     (lZ ae aj Iu dq gq) (wrap .i64 (aY+(1:Int)))
   else none
  else
   dq
def fM (N:Nat) (a0:(List Int)) (a1:Int) (kf:Bool->Option aa):Option aa:=
 lZ a0 a1 N (kf false) kf (0:Int)
def zS (N:Nat) (a0:(List QT)) (a1:Int) (a2:Int) (kf:Bool->Option aa):Option aa:=
 cH N a0 a1 (λiw=>
  bif (decide (iw≥(0:Int))) then
   bif (aD iw (length a0)) then
    fM N (getD a0 (toNat iw) an).2.2.2.2.2 a2 kf
   else none
  else
   kf false)
def nH (N:Nat) (a0:(List QT)) (a1:Int) (a2:Int) (kf:Bool->Option aa):Option aa:=
 cH N a0 a1 (λcI=>
  cH N a0 a2 (λfV=>
   bW N a0 (λFZ=>
    bif FZ then
     bif (decide (cI≥(0:Int))) then
      bif (decide (fV≥(0:Int))) then
       bif (cI != fV) then
        bif (aD cI (length a0)) then
         bif (aD fV (length a0)) then
          bif ((getD a0 (toNat cI) an).2.1 != (getD a0 (toNat fV) an).2.1) then
           zS N a0 a1 a2 (λahP=>
            kf (!ahP))
          else
           kf false
         else none
        else none
       else
        kf false
      else
       kf false
     else
      kf false
    else
     kf false)))
def jy (N:Nat) (ae:(List QT)) (aj:(List bE)):Nat->((List Int)->Option aa)->(Bool->Option aa)->(List Int)->Int->Option aa
 |0,_,_,_,_=>none
 |po+1,bz,xG,aY,o6=>
  bif (decide (o6<(length aj:Int))) then
   bif (aD o6 (length aj)) then
    bif (aD o6 (length aj)) then
     nH N ae (getD aj (toNat o6) ff).1 (getD aj (toNat o6) ff).2 (λZe=>
      bif (!Ze) then
       xG false
      else
       bif (aD o6 (length aj)) then
        fM N aY (getD aj (toNat o6) ff).1 (λZf=>
         bif Zf then
          xG false
         else
          bif (aD o6 (length aj)) then
           fM N aY (getD aj (toNat o6) ff).2 (λZg=>
            bif Zg then
             xG false
            else
             bif (aD o6 (length aj)) then
              bif (aD o6 (length aj)) then
               bif (decide ((length aY+length [(getD aj (toNat o6) ff).1,(getD aj (toNat o6) ff).2])*1<=4398046511104)) then
                (jy N ae aj po bz xG) (aY++[(getD aj (toNat o6) ff).1,(getD aj (toNat o6) ff).2]) (wrap .i64 (o6+(1:Int)))
               else none
              else none
             else none)
          else none)
       else none)
    else none
   else none
  else
   bz aY
def zT (N:Nat) (a0:(List QT)) (a1:(List bE)) (kf:Bool->Option aa):Option aa:=
 jy N a0 a1 N (λaqG=>
  bW N a0 (λaoe=>
   bif aoe then
    kf ((length aqG:Int)==(length a0:Int))
   else
    kf false)) kf ([]:(List Int)) (0:Int)
def jz (ae:(List QJ)) (aj:Int):Nat->(Option aa)->(Int->Option aa)->Int->Option aa
 |0,_,_,_=>none
 |Iu+1,dq,gq,aY=>
  bif (decide (aY<(length ae:Int))) then
   bif (aD aY (length ae)) then
    bif ((getD ae (toNat aY) dY).1==aj) then
     gq aY
    else
     (jz ae aj Iu dq gq) (wrap .i64 (aY+(1:Int)))
   else none
  else
   dq
def gD (N:Nat) (a0:(List QJ)) (a1:Int) (kf:Int->Option aa):Option aa:=
 jz a0 a1 N (kf (-1:Int)) kf (0:Int)
def oS (N:Nat) (a0:(List QT)) (a1:QJ) (a2:bE) (kf:Bool->Option aa):Option aa:=
 cH N a0 a2.1 (λx7=>
  cH N a0 a2.2 (λDp=>
   bif (decide (x7≥(0:Int))) then
    bif (decide (Dp≥(0:Int))) then
     bif (aD x7 (length a0)) then
      bif ((getD a0 (toNat x7) an).2.1 != a1.2.1) then
       bif (aD Dp (length a0)) then
        bif ((getD a0 (toNat Dp) an).2.1 != a1.2.1) then
         fM N a1.2.2 a2.1 (λaqH=>
          bif (!aqH) then
           fM N a1.2.2 a2.2 (λahQ=>
            kf (!ahQ))
          else
           kf false)
        else
         kf false
       else none
      else
       kf false
     else none
    else
     kf false
   else
    kf false))
def gE (N:Nat) (KM:(List QT)) (sC:(List QJ)) (xd:(List bE)) (tJ:(List Int)):Nat->(Option aa)->(Bool->Option aa)->Int->Option aa
 |0,_,_,_=>none
 |Mt+1,uj,nI,Si=>
  bif (decide (Si<(length xd:Int))) then
   bif (aD Si (length tJ)) then
    gD N sC (getD tJ (toNat Si) (0:Int)) (λSj=>
     bif (decide (Sj<(0:Int))) then
      nI false
     else
      bif (decide ((0:Int)<=(0:Int))&&decide ((0:Int)<=Si)&&decide (Si<=(length tJ:Int))) then
       bif (aD Si (length tJ)) then
        fM N (List.drop (toNat (0:Int)) (List.take (toNat Si) tJ)) (getD tJ (toNat Si) (0:Int)) (λahR=>
         bif ahR then
          nI false
         else
          bif (aD Sj (length sC)) then
           bif (aD Si (length xd)) then
            oS N KM (getD sC (toNat Sj) dY) (getD xd (toNat Si) ff) (λabN=>
             bif (!abN) then
              nI false
             else
              (gE N KM sC xd tJ Mt uj nI) (wrap .i64 (Si+(1:Int))))
           else none
          else none)
       else none
      else none)
   else none
  else
   uj
def uk (N:Nat) (a0:(List QT)) (a1:(List QJ)) (a2:(List bE)) (a3:(List Int)) (kf:Bool->Option aa):Option aa:=
 bif ((length a3:Int) != (length a2:Int)) then
  kf false
 else
  mM N a1 (λaB=>
   bif (!aB) then
    kf false
   else
    gE N a0 a1 a2 a3 N (kf true) kf (0:Int))
def kj (N:Nat) (a0:QB) (kf:Bool->Option aa):Option aa:=
 bn N a0.1 (1:Int) (99:Int) (λGA=>
  bif GA then
   bn N a0.2.1 (0:Int) (100:Int) (λabO=>
    bif abO then
     bn N a0.2.2 (0:Int) (100:Int) (λZh=>
      bif Zh then
       kf (a0.2.1 != a0.2.2)
      else
       kf false)
    else
     kf false)
  else
   kf false)
def iV (N:Nat) (zU:QC) (Sk:QB):Nat->(Option aa)->(Bool->Option aa)->Int->Option aa
 |0,_,_,_=>none
 |WT+1,E6,zV,Dq=>
  bif (decide (Dq<(length zU.2.2.2.2.1:Int))) then
   bif (aD Dq (length zU.2.2.2.2.1)) then
    bif (!((decide (((getD zU.2.2.2.2.1 (toNat Dq) oO).1:Int)=Sk.1))&&((decide (((getD zU.2.2.2.2.1 (toNat Dq) oO).2.1:Int)=Sk.2.1))&&(decide (((getD zU.2.2.2.2.1 (toNat Dq) oO).2.2:Int)=Sk.2.2))))) then
     bif (aD Dq (length zU.2.2.2.2.1)) then
      kj N (getD zU.2.2.2.2.1 (toNat Dq) oO) (λabP=>
       bif (!abP) then
        zV false
       else
        bif (aD Dq (length zU.2.2.2.2.1)) then
         bif (aD Dq (length zU.2.2.2.1)) then
          bif ((getD zU.2.2.2.2.1 (toNat Dq) oO).1 != (getD zU.2.2.2.1 (toNat Dq) (0:Int))) then
           zV false
          else
           (iV N zU Sk WT E6 zV) (wrap .i64 (Dq+(1:Int)))
         else none
        else none)
     else none
    else
     (iV N zU Sk WT E6 zV) (wrap .i64 (Dq+(1:Int)))
   else none
  else
   E6
def um (N:Nat) (a0:QC) (kf:Bool->Option aa):Option aa:=
 iV N a0 ((0:Int),((0:Int),(0:Int))) N (kf true) kf (0:Int)
def pY (N:Nat) (a0:QC) (kf:Bool->Option aa):Option aa:=
 bW N a0.1 (λx8=>
  bif (!x8) then
   kf false
  else
   mM N a0.2.1 (λSl=>
    bif (!Sl) then
     kf false
    else
     od N a0.2.2.2.2.2.1 (λSm=>
      bif (!Sm) then
       kf false
      else
       bif ((length a0.2.2.2.1:Int) != (length a0.2.2.1:Int)) then
        kf false
       else
        bif ((length a0.2.2.2.2.1:Int) != (length a0.2.2.1:Int)) then
         kf false
        else
         bn N a0.2.2.2.2.2.2 (0:Int) (1000:Int) (λaqI=>
          bif (!aqI) then
           kf false
          else
           ui N a0.1 (λaqJ=>
            bif (aqJ != a0.2.2.2.2.2.2) then
             kf false
            else
             bif (decide ((length a0.2.2.1:Int)>(0:Int))) then
              zT N a0.1 a0.2.2.1 (λaqK=>
               bif (!aqK) then
                kf false
               else
                uk N a0.1 a0.2.1 a0.2.2.1 a0.2.2.2.1 (λaqL=>
                 bif (!aqL) then
                  kf false
                 else
                  um N a0 kf))
             else
              um N a0 kf)))))
def ft (N:Nat) (a0:QC) (a1:QC) (a2:Bool) (a3:Int) (a4:Int) (kf:QC->Bool->Option aa):Option aa:=
 ug N a0.2.2.2.2.2.1 a3 a4 (λZi Mq=>
  bif (!a2) then
   fq N a0 (λZj=>
    kf Zj false)
  else
   bif (!Mq) then
    fq N a0 (λZj=>
     kf Zj false)
   else
    pY N a0 (λaqM=>
     bif (!aqM) then
      fq N a0 (λZj=>
       kf Zj false)
     else
      pY N (a1.1,(a1.2.1,(a1.2.2.1,(a1.2.2.2.1,(a1.2.2.2.2.1,(Zi,a1.2.2.2.2.2.2)))))) (λaqN=>
       bif (!aqN) then
        fq N a0 (λaqO=>
         kf aqO false)
       else
        kf (a1.1,(a1.2.1,(a1.2.2.1,(a1.2.2.2.1,(a1.2.2.2.2.1,(Zi,a1.2.2.2.2.2.2)))))) true)))
def fW (aj:Int) (hJ:Int) (eJ:QC) (sD:QC) (Mu:QC):Nat->(Int->Option aa)->Int->Option aa
 |0,_,_=>none
 |n_8+1,bz,GB=>
  bif (decide (GB<(length eJ.1:Int))) then
   bif (aD GB (length eJ.1)) then
    bif (decide ((getD eJ.1 (toNat GB) an).1<aj)) then
     (fW aj hJ eJ sD Mu n_8 bz) (wrap .i64 (GB+(1:Int)))
    else
     bz GB
   else none
  else
   bz GB
def rv (N:Nat) (a0:QC) (a1:Int) (a2:Int) (kf:QC->Bool->Option aa):Option aa:=
 fq N a0 (λcI=>
  fW a1 a2 a0 (([]:(List QT)),(([]:(List QJ)),(([]:(List bE)),(([]:(List Int)),(([]:(List QB)),(([]:(List QL)),(0:Int))))))) cI N (λDr=>
   bif (decide ((0:Int)<=(0:Int))&&decide ((0:Int)<=Dr)&&decide (Dr<=(length a0.1:Int))) then
    jY N (List.drop (toNat (0:Int)) (List.take (toNat Dr) a0.1)) (λKN=>
     bif (decide ((length KN+length [(a1,(a2,((0:Int),((0:Int),((0:Int),([]:(List Int)))))))])*6<=4398046511104)) then
      bif (decide ((0:Int)<=Dr)&&decide (Dr<=(length a0.1:Int))&&decide ((length a0.1:Int)<=(length a0.1:Int))) then
       jY N (List.drop (toNat Dr) (List.take (toNat (length a0.1:Int)) a0.1)) (λSn=>
        bif (decide ((length (KN++[(a1,(a2,((0:Int),((0:Int),((0:Int),([]:(List Int)))))))])+length Sn)*6<=4398046511104)) then
         kI N a0 (λaof=>
          ft N a0 (((KN++[(a1,(a2,((0:Int),((0:Int),((0:Int),([]:(List Int)))))))])++Sn),cI.2) (!aof) (1:Int) a1 kf)
        else none)
      else none
     else none)
   else none) (0:Int))
def eQ (aj:Int) (hJ:Int) (eJ:QC) (sD:QC) (Mu:QC):Nat->(Int->Option aa)->Int->Option aa
 |0,_,_=>none
 |n_8+1,bz,GB=>
  bif (decide (GB<(length eJ.2.1:Int))) then
   bif (aD GB (length eJ.2.1)) then
    bif (decide ((getD eJ.2.1 (toNat GB) dY).1<aj)) then
     (eQ aj hJ eJ sD Mu n_8 bz) (wrap .i64 (GB+(1:Int)))
    else
     bz GB
   else none
  else
   bz GB
def pZ (N:Nat) (a0:QC) (a1:Int) (a2:Int) (kf:QC->Bool->Option aa):Option aa:=
 fq N a0 (λcI=>
  eQ a1 a2 a0 (([]:(List QT)),(([]:(List QJ)),(([]:(List bE)),(([]:(List Int)),(([]:(List QB)),(([]:(List QL)),(0:Int))))))) cI N (λDr=>
   bif (decide ((0:Int)<=(0:Int))&&decide ((0:Int)<=Dr)&&decide (Dr<=(length a0.2.1:Int))) then
    kH N (List.drop (toNat (0:Int)) (List.take (toNat Dr) a0.2.1)) (λKN=>
     bif (decide ((length KN+length [(a1,(a2,([]:(List Int))))])*3<=4398046511104)) then
      bif (decide ((0:Int)<=Dr)&&decide (Dr<=(length a0.2.1:Int))&&decide ((length a0.2.1:Int)<=(length a0.2.1:Int))) then
       kH N (List.drop (toNat Dr) (List.take (toNat (length a0.2.1:Int)) a0.2.1)) (λSn=>
        bif (decide ((length (KN++[(a1,(a2,([]:(List Int))))])+length Sn)*3<=4398046511104)) then
         ft N a0 (cI.1,(((KN++[(a1,(a2,([]:(List Int))))])++Sn),cI.2.2)) true (2:Int) a1 kf
        else none)
      else none
     else none)
   else none) (0:Int))
def p4 (N:Nat) (a0:QT) (a1:QT) (kf:Bool->Option aa):Option aa:=
 bif (a0.2.2.1 != a1.2.2.1) then
  kf (decide (a0.2.2.1>a1.2.2.1))
 else
  bif (decide (a0.2.2.2.1>a1.2.2.2.1)) then
   kf true
  else
   bif (a0.2.2.2.1==a1.2.2.2.1) then
    kf (decide (a0.1<a1.1))
   else
    kf false
def eR (BU:(List QT)):Nat->((List Int)->Option aa)->(List Int)->Int->Option aa
 |0,_,_,_=>none
 |atd+1,Ds,zg,Zk=>
  bif (decide (Zk<(length BU:Int))) then
   bif (aD Zk (length BU)) then
    bif (decide ((length zg+length [(getD BU (toNat Zk) an).1])*1<=4398046511104)) then
     (eR BU atd Ds) (zg++[(getD BU (toNat Zk) an).1]) (wrap .i64 (Zk+(1:Int)))
    else none
   else none
  else
   Ds zg
def iE (N:Nat) (iD:(List QT)) (uh:(List QT)) (Ms:Int):Nat->(Int->Option aa)->Int->Option aa
 |0,_,_=>none
 |Zl+1,WU,afx=>
  bif (decide (afx>(0:Int))) then
   bif (aD Ms (length iD)) then
    bif (aD (wrap .i64 (afx - (1:Int))) (length uh)) then
     p4 N (getD iD (toNat Ms) an) (getD uh (toNat (wrap .i64 (afx - (1:Int)))) an) (λaog=>
      bif aog then
       (iE N iD uh Ms Zl WU) (wrap .i64 (afx - (1:Int)))
      else
       WU afx)
    else none
   else none
  else
   WU afx
def iF (N:Nat) (ae:(List QT)):Nat->((List QT)->Option aa)->(List QT)->Int->Option aa
 |0,_,_,_=>none
 |Iu+1,BV,ao,bV=>
  bif (decide (bV<(length ae:Int))) then
   bW N ae (λahS=>
    bif ahS then
     iE N ae ao bV N (λry=>
      bif (decide ((0:Int)<=(0:Int))&&decide ((0:Int)<=ry)&&decide (ry<=(length ao:Int))) then
       bif (aD bV (length ae)) then
        bif (decide ((0:Int)<=ry)&&decide (ry<=(length ao:Int))&&decide ((length ao:Int)<=(length ao:Int))) then
         bif (decide ((length ([]:(List QT))+length (List.drop 0 (List.take (toNat ry) ao)))*6<=4398046511104)) then
          bif (decide ((length (([]:(List QT))++(List.drop 0 (List.take (toNat ry) ao)))+length [(getD ae (toNat bV) an)])*6<=4398046511104)) then
           bif (decide ((length ((([]:(List QT))++(List.drop 0 (List.take (toNat ry) ao)))++[(getD ae (toNat bV) an)])+length (List.drop (toNat ry) (List.take (toNat (length ao:Int)) ao)))*6<=4398046511104)) then
            (iF N ae Iu BV) (((([]:(List QT))++(List.drop 0 (List.take (toNat ry) ao)))++[(getD ae (toNat bV) an)])++(List.drop (toNat ry) (List.take (toNat (length ao:Int)) ao))) (wrap .i64 (bV+(1:Int)))
           else none
          else none
         else none
        else none
       else none
      else none) (length ao:Int)
    else
     BV ao)
  else
   BV ao
def xH (N:Nat) (a0:(List QT)) (kf:(List Int)->Option aa):Option aa:=
 iF N a0 N (λaqP=>
  eR aqP N kf ([]:(List Int)) (0:Int)) ([]:(List QT)) (0:Int)
def zW (N:Nat) (a0:(List QT)) (a1:Int) (a2:Int) (kf:bE->Option aa):Option aa:=
 cH N a0 a1 (λcI=>
  cH N a0 a2 (λfV=>
   bW N a0 (λFZ=>
    bif (!FZ) then
     kf ((0:Int),(0:Int))
    else
     bif (decide (cI<(0:Int))) then
      kf ((0:Int),(0:Int))
     else
      bif (decide (fV<(0:Int))) then
       kf ((0:Int),(0:Int))
      else
       bif (cI==fV) then
        kf ((0:Int),(0:Int))
       else
        bif (aD fV (length a0)) then
         bif (aD cI (length a0)) then
          bif (decide ((getD a0 (toNat fV) an).2.2.2.2.1<(getD a0 (toNat cI) an).2.2.2.2.1)) then
           kf (a2,a1)
          else
           bif (aD fV (length a0)) then
            bif (aD cI (length a0)) then
             bif ((getD a0 (toNat fV) an).2.2.2.2.1==(getD a0 (toNat cI) an).2.2.2.2.1) then
              bif (aD fV (length a0)) then
               bif (aD cI (length a0)) then
                p4 N (getD a0 (toNat fV) an) (getD a0 (toNat cI) an) (λaqQ=>
                 bif aqQ then
                  kf (a2,a1)
                 else
                  kf (a1,a2))
               else none
              else none
             else
              kf (a1,a2)
            else none
           else none
         else none
        else none)))
def E7 (N:Nat) (self:(List QT)->(List Int)->((List bE)->Bool->Option aa)->Option aa) (ae:(List QT)) (aj:(List Int)):Nat->(Option aa)->((List bE)->Bool->Option aa)->Int->Option aa
 |0,_,_,_=>none
 |Iu+1,CP,uo,tK=>
  bif (decide (tK<(length aj:Int))) then
   bif (aD (0:Int) (length aj)) then
    bif (aD tK (length aj)) then
     nH N ae (getD aj (toNat (0:Int)) (0:Int)) (getD aj (toNat tK) (0:Int)) (λahT=>
      bif (!ahT) then
       (E7 N self ae aj Iu CP uo) (wrap .i64 (tK+(1:Int)))
      else
       bif (decide ((0:Int)<=(1:Int))&&decide ((1:Int)<=tK)&&decide (tK<=(length aj:Int))) then
        bif (decide ((0:Int)<=(wrap .i64 (tK+(1:Int))))&&decide ((wrap .i64 (tK+(1:Int)))<=(length aj:Int))&&decide ((length aj:Int)<=(length aj:Int))) then
         bif (decide ((length ([]:(List Int))+length (List.drop (toNat (1:Int)) (List.take (toNat tK) aj)))*1<=4398046511104)) then
          bif (decide ((length (([]:(List Int))++(List.drop (toNat (1:Int)) (List.take (toNat tK) aj)))+length (List.drop (toNat (wrap .i64 (tK+(1:Int)))) (List.take (toNat (length aj:Int)) aj)))*1<=4398046511104)) then
           self ae ((([]:(List Int))++(List.drop (toNat (1:Int)) (List.take (toNat tK) aj)))++(List.drop (toNat (wrap .i64 (tK+(1:Int)))) (List.take (toNat (length aj:Int)) aj))) (λamO aqR=>
            bif aqR then
             bif (aD (0:Int) (length aj)) then
              bif (aD tK (length aj)) then
               zW N ae (getD aj (toNat (0:Int)) (0:Int)) (getD aj (toNat tK) (0:Int)) (λVC=>
                bif (decide ((length [VC]+length amO)*2<=4398046511104)) then
                 uo ([VC]++amO) true
                else none)
              else none
             else none
            else
             (E7 N self ae aj Iu CP uo) (wrap .i64 (tK+(1:Int))))
          else none
         else none
        else none
       else none)
    else none
   else none
  else
   CP
def abQ (self:(List QT)->(List Int)->((List bE)->Bool->Option aa)->Option aa) (N:Nat) (a0:(List QT)) (a1:(List Int)) (kf:(List bE)->Bool->Option aa):Option aa:=
 bif ((length a1:Int)==(0:Int)) then
  kf ([]:(List bE)) true
 else
  E7 N self a0 a1 N (kf ([]:(List bE)) false) kf (1:Int)
def abR:Nat->(List QT)->(List Int)->((List bE)->Bool->Option aa)->Option aa
 |0,_,_,_=>none
 |N+1,a0,a1,kf=>abQ (abR N) N a0 a1 kf
def uq (N:Nat) (a0:(List QT)) (kf:(List bE)->Bool->Option aa):Option aa:=
 bW N a0 (λGA=>
  bif (!GA) then
   kf ([]:(List bE)) false
  else
   bif ((Int.tmod (length a0:Int) (2:Int))==(1:Int)) then
    kf ([]:(List bE)) false
   else
    xH N a0 (λDp=>
     abR N a0 Dp kf))
def BW (N:Nat) (self:(List QT)->(List QJ)->(List bE)->(List Int)->((List Int)->Bool->Option aa)->Option aa) (ae:(List QT)) (aj:(List QJ)) (hJ:(List bE)) (eJ:(List Int)):Nat->(Option aa)->((List Int)->Bool->Option aa)->Int->Option aa
 |0,_,_,_=>none
 |BX+1,uj,nI,pq=>
  bif (decide (pq<(length aj:Int))) then
   bif (aD pq (length aj)) then
    fM N eJ (getD aj (toNat pq) dY).1 (λaqS=>
     bif aqS then
      (BW N self ae aj hJ eJ BX uj nI) (wrap .i64 (pq+(1:Int)))
     else
      bif (aD pq (length aj)) then
       bif (aD (0:Int) (length hJ)) then
        oS N ae (getD aj (toNat pq) dY) (getD hJ (toNat (0:Int)) ff) (λHj=>
         bif (!Hj) then
          (BW N self ae aj hJ eJ BX uj nI) (wrap .i64 (pq+(1:Int)))
         else
          bif (decide ((0:Int)<=(1:Int))&&decide ((1:Int)<=(length hJ:Int))&&decide ((length hJ:Int)<=(length hJ:Int))) then
           bif (aD pq (length aj)) then
            bif (decide ((length ([]:(List Int))+length eJ)*1<=4398046511104)) then
             bif (decide ((length (([]:(List Int))++eJ)+length [(getD aj (toNat pq) dY).1])*1<=4398046511104)) then
              self ae aj (List.drop (toNat (1:Int)) (List.take (toNat (length hJ:Int)) hJ)) ((([]:(List Int))++eJ)++[(getD aj (toNat pq) dY).1]) (λamP aoh=>
               bif aoh then
                bif (aD pq (length aj)) then
                 bif (decide ((length [(getD aj (toNat pq) dY).1]+length amP)*1<=4398046511104)) then
                  nI ([(getD aj (toNat pq) dY).1]++amP) true
                 else none
                else none
               else
                (BW N self ae aj hJ eJ BX uj nI) (wrap .i64 (pq+(1:Int))))
             else none
            else none
           else none
          else none)
       else none
      else none)
   else none
  else
   uj
def abS (self:(List QT)->(List QJ)->(List bE)->(List Int)->((List Int)->Bool->Option aa)->Option aa) (N:Nat) (a0:(List QT)) (a1:(List QJ)) (a2:(List bE)) (a3:(List Int)) (kf:(List Int)->Bool->Option aa):Option aa:=
 bif ((length a2:Int)==(0:Int)) then
  kf ([]:(List Int)) true
 else
  BW N self a0 a1 a2 a3 N (kf ([]:(List Int)) false) kf (0:Int)
def abT:Nat->(List QT)->(List QJ)->(List bE)->(List Int)->((List Int)->Bool->Option aa)->Option aa
 |0,_,_,_,_,_=>none
 |N+1,a0,a1,a2,a3,kf=>abS (abT N) N a0 a1 a2 a3 kf
def rY (N:Nat) (a0:(List QT)) (a1:(List QJ)) (a2:(List bE)) (kf:(List Int)->Bool->Option aa):Option aa:=
 mM N a1 (λp5=>
  bif (!p5) then
   kf ([]:(List Int)) false
  else
   bW N a0 (λur=>
    bif (!ur) then
     kf ([]:(List Int)) false
    else
     abT N a0 a1 a2 ([]:(List Int)) kf))
def oT (N:Nat) (a0:QC) (kf:QC->Bool->Option aa):Option aa:=
 fq N a0 (λiw=>
  uq N a0.1 (λfV Zh=>
   rY N a0.1 a0.2.1 fV (λVE JQ=>
    bif (decide ((length fV:Int)=(length fV:Int))&&decide ((0:Int)<=(length fV:Int))&&decide ((length fV:Int)<=1099511627776)) then
     bif Zh then
      bif JQ then
       kI N a0 (λaqT=>
        bif (!aqT) then
         ft N a0 (iw.1,(iw.2.1,(fV,(VE,((List.replicate (toNat (length fV:Int)) ((0:Int),((0:Int),(0:Int)))),iw.2.2.2.2.2))))) (decide ((length a0.1:Int)>(0:Int))) (3:Int) (0:Int) kf
        else
         ft N a0 (iw.1,(iw.2.1,(fV,(VE,((List.replicate (toNat (length fV:Int)) ((0:Int),((0:Int),(0:Int)))),iw.2.2.2.2.2))))) false (3:Int) (0:Int) kf)
      else
       ft N a0 (iw.1,(iw.2.1,(fV,(VE,((List.replicate (toNat (length fV:Int)) ((0:Int),((0:Int),(0:Int)))),iw.2.2.2.2.2))))) false (3:Int) (0:Int) kf
     else
      ft N a0 (iw.1,(iw.2.1,(fV,(VE,((List.replicate (toNat (length fV:Int)) ((0:Int),((0:Int),(0:Int)))),iw.2.2.2.2.2))))) false (3:Int) (0:Int) kf
    else none)))
def ig (cO:QC) (bV:QB):Nat->((List Int)->Option aa)->(List Int)->Int->Option aa
 |0,_,_,_=>none
 |po+1,fi,ao,mn=>
  bif (decide (mn<(length cO.2.2.2.2.1:Int))) then
   bif (aD mn (length cO.2.2.2.2.1)) then
    bif ((decide (((getD cO.2.2.2.2.1 (toNat mn) oO).1:Int)=bV.1))&&((decide (((getD cO.2.2.2.2.1 (toNat mn) oO).2.1:Int)=bV.2.1))&&(decide (((getD cO.2.2.2.2.1 (toNat mn) oO).2.2:Int)=bV.2.2)))) then
     bif (decide ((length ao+length [mn])*1<=4398046511104)) then
      (ig cO bV po fi) (ao++[mn]) (wrap .i64 (mn+(1:Int)))
     else none
    else
     (ig cO bV po fi) ao (wrap .i64 (mn+(1:Int)))
   else none
  else
   fi ao
def uu (N:Nat) (a0:QC) (kf:(List Int)->Option aa):Option aa:=
 ig a0 ((0:Int),((0:Int),(0:Int))) N kf ([]:(List Int)) (0:Int)
def dH (N:Nat) (ae:(List QB)):Nat->(Option aa)->(Bool->Option aa)->Int->Option aa
 |0,_,_,_=>none
 |n_3+1,dq,gq,ao=>
  bif (decide (ao<(length ae:Int))) then
   bif (aD ao (length ae)) then
    kj N (getD ae (toNat ao) oO) (λahU=>
     bif (!ahU) then
      gq false
     else
      bif (decide (ao>(0:Int))) then
       bif (aD (wrap .i64 (ao - (1:Int))) (length ae)) then
        bif (aD ao (length ae)) then
         bif (decide ((getD ae (toNat (wrap .i64 (ao - (1:Int)))) oO).1≥(getD ae (toNat ao) oO).1)) then
          gq false
         else
          (dH N ae n_3 dq gq) (wrap .i64 (ao+(1:Int)))
        else none
       else none
      else
       (dH N ae n_3 dq gq) (wrap .i64 (ao+(1:Int))))
   else none
  else
   dq
def jA (N:Nat) (a0:(List QB)) (kf:Bool->Option aa):Option aa:=
 dH N a0 N (kf (decide ((length a0:Int)<=(9:Int)))) kf (0:Int)
def xe (N:Nat) (a0:QB) (kf:Int->Option aa):Option aa:=
 bif (decide (a0.2.1>a0.2.2)) then
  kf (1:Int)
 else
  kf (2:Int)
def fX (N:Nat) (ae:(List QB)) (aj:Int):Nat->(Int->Option aa)->Int->Int->Option aa
 |0,_,_,_=>none
 |po+1,bz,aY,o6=>
  bif (decide (o6<(length ae:Int))) then
   jA N ae (λZm=>
    bif Zm then
     bif (aD o6 (length ae)) then
      xe N (getD ae (toNat o6) oO) (λY'=>
       bif (Y'==aj) then
        (fX N ae aj po bz) (wrap .i64 (aY+(1:Int))) (wrap .i64 (o6+(1:Int)))
       else
        (fX N ae aj po bz) aY (wrap .i64 (o6+(1:Int))))
     else none
    else
     bz aY)
  else
   bz aY
def rz (N:Nat) (a0:(List QB)) (a1:Int) (kf:Int->Option aa):Option aa:=
 fX N a0 a1 N kf (0:Int) (0:Int)
def p6 (N:Nat) (ae:(List QB)) (aj:Int):Nat->(Int->Option aa)->Int->Int->Option aa
 |0,_,_,_=>none
 |po+1,fh,aY,o6=>
  bif (decide (o6<(length ae:Int))) then
   jA N ae (λZm=>
    bif Zm then
     bif (aj==(1:Int)) then
      bif (aD o6 (length ae)) then
       (p6 N ae aj po fh) (wrap .i64 (aY+(getD ae (toNat o6) oO).2.1)) (wrap .i64 (o6+(1:Int)))
      else none
     else
      bif (aj==(2:Int)) then
       bif (aD o6 (length ae)) then
        (p6 N ae aj po fh) (wrap .i64 (aY+(getD ae (toNat o6) oO).2.2)) (wrap .i64 (o6+(1:Int)))
       else none
      else
       (p6 N ae aj po fh) aY (wrap .i64 (o6+(1:Int)))
    else
     fh aY)
  else
   fh aY
def Hk (N:Nat) (a0:(List QB)) (a1:Int) (kf:Int->Option aa):Option aa:=
 p6 N a0 a1 N kf (0:Int) (0:Int)
def Dt (N:Nat) (a0:(List QB)) (kf:Int->Option aa) (aqU:Int):Option aa:=
 bif (decide (aqU>(0:Int))) then
  kf (1:Int)
 else
  bif (decide (aqU<(0:Int))) then
   kf (2:Int)
  else
   bif (aD (0:Int) (length a0)) then
    xe N (getD a0 (toNat (0:Int)) oO) kf
   else none
def oU (N:Nat) (a0:(List QB)) (kf:Int->Option aa):Option aa:=
 bif ((length a0:Int)==(0:Int)) then
  kf (0:Int)
 else
  jA N a0 (λp5=>
   bif (!p5) then
    kf (0:Int)
   else
    rz N a0 (1:Int) (λur=>
     rz N a0 (2:Int) (λamQ=>
      bif ((wrap .i64 (ur - amQ))==(0:Int)) then
       Hk N a0 (1:Int) (λaqV=>
        Hk N a0 (2:Int) (λaqW=>
         Dt N a0 kf (wrap .i64 (aqV - aqW))))
      else
       Dt N a0 kf (wrap .i64 (ur - amQ)))))
def pr (N:Nat) (a0:(List QT)) (kf:(List QT)->Bool->Option aa) (ahV:(List QT)):Option aa:=
 bW N ahV (λakT=>
  bif (!akT) then
   jY N a0 (λakU=>
    kf akU false)
  else
   kf ahV true)
def mO (N:Nat) (a0:(List QT)) (a1:Int) (a2:Int) (a3:Int) (a4:Int) (a5:Int) (kf:(List QT)->Bool->Option aa):Option aa:=
 jY N a0 (λaB=>
  cH N a0 a1 (λab=>
   cH N a0 a2 (λaA=>
    bW N a0 (λHl=>
     bif (!Hl) then
      kf aB false
     else
      bif (decide (ab<(0:Int))) then
       kf aB false
      else
       bif (decide (aA<(0:Int))) then
        kf aB false
       else
        bif (ab==aA) then
         kf aB false
        else
         bn N a3 (1:Int) (2:Int) (λZn=>
          bif (!Zn) then
           kf aB false
          else
           bn N a4 (0:Int) (1000:Int) (λahW=>
            bif (!ahW) then
             kf aB false
            else
             bn N a5 (0:Int) (1000:Int) (λahX=>
              bif (!ahX) then
               kf aB false
              else
               bif (aD ab (length aB)) then
                bif (decide ((length (getD aB (toNat ab) an).2.2.2.2.2+length [a2])*1<=4398046511104)) then
                 bif (aD ab (length aB)) then
                  bif (Nat.beq (toNat ab) (toNat ab)) then
                   bif (aD aA (length (List.set aB (toNat ab) ((getD aB (toNat ab) an).1,((getD aB (toNat ab) an).2.1,((getD aB (toNat ab) an).2.2.1,((getD aB (toNat ab) an).2.2.2.1,((getD aB (toNat ab) an).2.2.2.2.1,((getD aB (toNat ab) an).2.2.2.2.2++[a2]))))))))) then
                    bif (decide ((length (getD (List.set aB (toNat ab) ((getD aB (toNat ab) an).1,((getD aB (toNat ab) an).2.1,((getD aB (toNat ab) an).2.2.1,((getD aB (toNat ab) an).2.2.2.1,((getD aB (toNat ab) an).2.2.2.2.1,((getD aB (toNat ab) an).2.2.2.2.2++[a2]))))))) (toNat aA) an).2.2.2.2.2+length [a1])*1<=4398046511104)) then
                     bif (aD aA (length (List.set aB (toNat ab) ((getD aB (toNat ab) an).1,((getD aB (toNat ab) an).2.1,((getD aB (toNat ab) an).2.2.1,((getD aB (toNat ab) an).2.2.2.1,((getD aB (toNat ab) an).2.2.2.2.1,((getD aB (toNat ab) an).2.2.2.2.2++[a2]))))))))) then
                      bif (Nat.beq (toNat aA) (toNat aA)) then
                       share (List.set (List.set aB (toNat ab) ((getD aB (toNat ab) an).1,((getD aB (toNat ab) an).2.1,((getD aB (toNat ab) an).2.2.1,((getD aB (toNat ab) an).2.2.2.1,((getD aB (toNat ab) an).2.2.2.2.1,((getD aB (toNat ab) an).2.2.2.2.2++[a2]))))))) (toNat aA) ((getD (List.set aB (toNat ab) ((getD aB (toNat ab) an).1,((getD aB (toNat ab) an).2.1,((getD aB (toNat ab) an).2.2.1,((getD aB (toNat ab) an).2.2.2.1,((getD aB (toNat ab) an).2.2.2.2.1,((getD aB (toNat ab) an).2.2.2.2.2++[a2]))))))) (toNat aA) an).1,((getD (List.set aB (toNat ab) ((getD aB (toNat ab) an).1,((getD aB (toNat ab) an).2.1,((getD aB (toNat ab) an).2.2.1,((getD aB (toNat ab) an).2.2.2.1,((getD aB (toNat ab) an).2.2.2.2.1,((getD aB (toNat ab) an).2.2.2.2.2++[a2]))))))) (toNat aA) an).2.1,((getD (List.set aB (toNat ab) ((getD aB (toNat ab) an).1,((getD aB (toNat ab) an).2.1,((getD aB (toNat ab) an).2.2.1,((getD aB (toNat ab) an).2.2.2.1,((getD aB (toNat ab) an).2.2.2.2.1,((getD aB (toNat ab) an).2.2.2.2.2++[a2]))))))) (toNat aA) an).2.2.1,((getD (List.set aB (toNat ab) ((getD aB (toNat ab) an).1,((getD aB (toNat ab) an).2.1,((getD aB (toNat ab) an).2.2.1,((getD aB (toNat ab) an).2.2.2.1,((getD aB (toNat ab) an).2.2.2.2.1,((getD aB (toNat ab) an).2.2.2.2.2++[a2]))))))) (toNat aA) an).2.2.2.1,((getD (List.set aB (toNat ab) ((getD aB (toNat ab) an).1,((getD aB (toNat ab) an).2.1,((getD aB (toNat ab) an).2.2.1,((getD aB (toNat ab) an).2.2.2.1,((getD aB (toNat ab) an).2.2.2.2.1,((getD aB (toNat ab) an).2.2.2.2.2++[a2]))))))) (toNat aA) an).2.2.2.2.1,((getD (List.set aB (toNat ab) ((getD aB (toNat ab) an).1,((getD aB (toNat ab) an).2.1,((getD aB (toNat ab) an).2.2.1,((getD aB (toNat ab) an).2.2.2.1,((getD aB (toNat ab) an).2.2.2.2.1,((getD aB (toNat ab) an).2.2.2.2.2++[a2]))))))) (toNat aA) an).2.2.2.2.2++[a1]))))))) (λay=>
                        bif (aD ab (length ay)) then
                         bif (aD ab (length ay)) then
                          bif (aD ab (length (List.set ay (toNat ab) ((getD ay (toNat ab) an).1,((getD ay (toNat ab) an).2.1,((getD ay (toNat ab) an).2.2.1,((getD ay (toNat ab) an).2.2.2.1,((wrap .i64 ((getD ay (toNat ab) an).2.2.2.2.1+(1:Int))),(getD ay (toNat ab) an).2.2.2.2.2)))))))) then
                           bif (aD ab (length (List.set ay (toNat ab) ((getD ay (toNat ab) an).1,((getD ay (toNat ab) an).2.1,((getD ay (toNat ab) an).2.2.1,((getD ay (toNat ab) an).2.2.2.1,((wrap .i64 ((getD ay (toNat ab) an).2.2.2.2.1+(1:Int))),(getD ay (toNat ab) an).2.2.2.2.2)))))))) then
                            share (List.set (List.set ay (toNat ab) ((getD ay (toNat ab) an).1,((getD ay (toNat ab) an).2.1,((getD ay (toNat ab) an).2.2.1,((getD ay (toNat ab) an).2.2.2.1,((wrap .i64 ((getD ay (toNat ab) an).2.2.2.2.1+(1:Int))),(getD ay (toNat ab) an).2.2.2.2.2)))))) (toNat ab) ((getD (List.set ay (toNat ab) ((getD ay (toNat ab) an).1,((getD ay (toNat ab) an).2.1,((getD ay (toNat ab) an).2.2.1,((getD ay (toNat ab) an).2.2.2.1,((wrap .i64 ((getD ay (toNat ab) an).2.2.2.2.1+(1:Int))),(getD ay (toNat ab) an).2.2.2.2.2)))))) (toNat ab) an).1,((getD (List.set ay (toNat ab) ((getD ay (toNat ab) an).1,((getD ay (toNat ab) an).2.1,((getD ay (toNat ab) an).2.2.1,((getD ay (toNat ab) an).2.2.2.1,((wrap .i64 ((getD ay (toNat ab) an).2.2.2.2.1+(1:Int))),(getD ay (toNat ab) an).2.2.2.2.2)))))) (toNat ab) an).2.1,((getD (List.set ay (toNat ab) ((getD ay (toNat ab) an).1,((getD ay (toNat ab) an).2.1,((getD ay (toNat ab) an).2.2.1,((getD ay (toNat ab) an).2.2.2.1,((wrap .i64 ((getD ay (toNat ab) an).2.2.2.2.1+(1:Int))),(getD ay (toNat ab) an).2.2.2.2.2)))))) (toNat ab) an).2.2.1,((wrap .i64 ((getD (List.set ay (toNat ab) ((getD ay (toNat ab) an).1,((getD ay (toNat ab) an).2.1,((getD ay (toNat ab) an).2.2.1,((getD ay (toNat ab) an).2.2.2.1,((wrap .i64 ((getD ay (toNat ab) an).2.2.2.2.1+(1:Int))),(getD ay (toNat ab) an).2.2.2.2.2)))))) (toNat ab) an).2.2.2.1+a4)),(getD (List.set ay (toNat ab) ((getD ay (toNat ab) an).1,((getD ay (toNat ab) an).2.1,((getD ay (toNat ab) an).2.2.1,((getD ay (toNat ab) an).2.2.2.1,((wrap .i64 ((getD ay (toNat ab) an).2.2.2.2.1+(1:Int))),(getD ay (toNat ab) an).2.2.2.2.2)))))) (toNat ab) an).2.2.2.2))))) (λbd=>
                             bif (aD aA (length bd)) then
                              bif (aD aA (length bd)) then
                               bif (a3==(1:Int)) then
                                bif (aD ab (length (List.set bd (toNat aA) ((getD bd (toNat aA) an).1,((getD bd (toNat aA) an).2.1,((getD bd (toNat aA) an).2.2.1,((wrap .i64 ((getD bd (toNat aA) an).2.2.2.1+a5)),(getD bd (toNat aA) an).2.2.2.2))))))) then
                                 bif (aD ab (length (List.set bd (toNat aA) ((getD bd (toNat aA) an).1,((getD bd (toNat aA) an).2.1,((getD bd (toNat aA) an).2.2.1,((wrap .i64 ((getD bd (toNat aA) an).2.2.2.1+a5)),(getD bd (toNat aA) an).2.2.2.2))))))) then
                                  share (List.set (List.set bd (toNat aA) ((getD bd (toNat aA) an).1,((getD bd (toNat aA) an).2.1,((getD bd (toNat aA) an).2.2.1,((wrap .i64 ((getD bd (toNat aA) an).2.2.2.1+a5)),(getD bd (toNat aA) an).2.2.2.2))))) (toNat ab) ((getD (List.set bd (toNat aA) ((getD bd (toNat aA) an).1,((getD bd (toNat aA) an).2.1,((getD bd (toNat aA) an).2.2.1,((wrap .i64 ((getD bd (toNat aA) an).2.2.2.1+a5)),(getD bd (toNat aA) an).2.2.2.2))))) (toNat ab) an).1,((getD (List.set bd (toNat aA) ((getD bd (toNat aA) an).1,((getD bd (toNat aA) an).2.1,((getD bd (toNat aA) an).2.2.1,((wrap .i64 ((getD bd (toNat aA) an).2.2.2.1+a5)),(getD bd (toNat aA) an).2.2.2.2))))) (toNat ab) an).2.1,((wrap .i64 ((getD (List.set bd (toNat aA) ((getD bd (toNat aA) an).1,((getD bd (toNat aA) an).2.1,((getD bd (toNat aA) an).2.2.1,((wrap .i64 ((getD bd (toNat aA) an).2.2.2.1+a5)),(getD bd (toNat aA) an).2.2.2.2))))) (toNat ab) an).2.2.1+(1:Int))),(getD (List.set bd (toNat aA) ((getD bd (toNat aA) an).1,((getD bd (toNat aA) an).2.1,((getD bd (toNat aA) an).2.2.1,((wrap .i64 ((getD bd (toNat aA) an).2.2.2.1+a5)),(getD bd (toNat aA) an).2.2.2.2))))) (toNat ab) an).2.2.2)))) (λabU=>
                                   pr N a0 kf abU)
                                 else none
                                else none
                               else
                                bif (aD aA (length (List.set bd (toNat aA) ((getD bd (toNat aA) an).1,((getD bd (toNat aA) an).2.1,((getD bd (toNat aA) an).2.2.1,((wrap .i64 ((getD bd (toNat aA) an).2.2.2.1+a5)),(getD bd (toNat aA) an).2.2.2.2))))))) then
                                 bif (aD aA (length (List.set bd (toNat aA) ((getD bd (toNat aA) an).1,((getD bd (toNat aA) an).2.1,((getD bd (toNat aA) an).2.2.1,((wrap .i64 ((getD bd (toNat aA) an).2.2.2.1+a5)),(getD bd (toNat aA) an).2.2.2.2))))))) then
                                  share (List.set (List.set bd (toNat aA) ((getD bd (toNat aA) an).1,((getD bd (toNat aA) an).2.1,((getD bd (toNat aA) an).2.2.1,((wrap .i64 ((getD bd (toNat aA) an).2.2.2.1+a5)),(getD bd (toNat aA) an).2.2.2.2))))) (toNat aA) ((getD (List.set bd (toNat aA) ((getD bd (toNat aA) an).1,((getD bd (toNat aA) an).2.1,((getD bd (toNat aA) an).2.2.1,((wrap .i64 ((getD bd (toNat aA) an).2.2.2.1+a5)),(getD bd (toNat aA) an).2.2.2.2))))) (toNat aA) an).1,((getD (List.set bd (toNat aA) ((getD bd (toNat aA) an).1,((getD bd (toNat aA) an).2.1,((getD bd (toNat aA) an).2.2.1,((wrap .i64 ((getD bd (toNat aA) an).2.2.2.1+a5)),(getD bd (toNat aA) an).2.2.2.2))))) (toNat aA) an).2.1,((wrap .i64 ((getD (List.set bd (toNat aA) ((getD bd (toNat aA) an).1,((getD bd (toNat aA) an).2.1,((getD bd (toNat aA) an).2.2.1,((wrap .i64 ((getD bd (toNat aA) an).2.2.2.1+a5)),(getD bd (toNat aA) an).2.2.2.2))))) (toNat aA) an).2.2.1+(1:Int))),(getD (List.set bd (toNat aA) ((getD bd (toNat aA) an).1,((getD bd (toNat aA) an).2.1,((getD bd (toNat aA) an).2.2.1,((wrap .i64 ((getD bd (toNat aA) an).2.2.2.1+a5)),(getD bd (toNat aA) an).2.2.2.2))))) (toNat aA) an).2.2.2)))) (λaoi=>
                                   pr N a0 kf aoi)
                                 else none
                                else none
                              else none
                             else none)
                           else none
                          else none
                         else none
                        else none)
                      else none
                     else none
                    else none
                   else none
                  else none
                 else none
                else none
               else none)))))))
def mP (a0:(List Int)) (a1:Int) (kf:(List Int)->Option aa) (BA:Int):Option aa:=
 bif (decide ((0:Int)<=(0:Int))&&decide ((0:Int)<=BA)&&decide (BA<=(length a0:Int))) then
  bif (decide ((0:Int)<=BA)&&decide (BA<=(length a0:Int))&&decide ((length a0:Int)<=(length a0:Int))) then
   bif (decide ((length ([]:(List Int))+length (List.drop (toNat (0:Int)) (List.take (toNat BA) a0)))*1<=4398046511104)) then
    bif (decide ((length (([]:(List Int))++(List.drop (toNat (0:Int)) (List.take (toNat BA) a0)))+length [a1])*1<=4398046511104)) then
     bif (decide ((length ((([]:(List Int))++(List.drop (toNat (0:Int)) (List.take (toNat BA) a0)))++[a1])+length (List.drop (toNat BA) (List.take (toNat (length a0:Int)) a0)))*1<=4398046511104)) then
      kf (((([]:(List Int))++(List.drop (toNat (0:Int)) (List.take (toNat BA) a0)))++[a1])++(List.drop (toNat BA) (List.take (toNat (length a0:Int)) a0)))
     else none
    else none
   else none
  else none
 else none
def kJ (ae:(List Int)) (aj:Int):Nat->(Int->Option aa)->Int->Option aa
 |0,_,_=>none
 |Iu+1,dq,aY=>
  bif (decide (aY<(length ae:Int))) then
   bif (aD aY (length ae)) then
    bif (decide ((getD ae (toNat aY) (0:Int))<aj)) then
     (kJ ae aj Iu dq) (wrap .i64 (aY+(1:Int)))
    else
     dq aY
   else none
  else
   dq aY
def dI (N:Nat) (a0:(List Int)) (a1:Int) (kf:(List Int)->Option aa):Option aa:=
 kJ a0 a1 N (λBA=>
  bif (decide (BA<(length a0:Int))) then
   bif (aD BA (length a0)) then
    bif ((getD a0 (toNat BA) (0:Int))==a1) then
     bif (decide ((length ([]:(List Int))+length a0)*1<=4398046511104)) then
      kf (([]:(List Int))++a0)
     else none
    else
     mP a0 a1 kf BA
   else none
  else
   mP a0 a1 kf BA) (0:Int)
def eS (N:Nat) (nh:QC) (ahY:QC):Nat->(QC->Bool->Option aa)->QC->Bool->Int->Option aa
 |0,_,_,_,_=>none
 |Zl+1,E8,kR,AA,AB=>
  bif (decide (AB<(length nh.2.2.1:Int))) then
   bif (aD AB (length nh.2.2.2.2.1)) then
    bif (aD AB (length nh.2.2.1)) then
     bif (aD AB (length nh.2.2.1)) then
      oU N [(getD nh.2.2.2.2.1 (toNat AB) oO)] (λSp=>
       mO N kR.1 (getD nh.2.2.1 (toNat AB) ff).1 (getD nh.2.2.1 (toNat AB) ff).2 Sp (getD nh.2.2.2.2.1 (toNat AB) oO).2.1 (getD nh.2.2.2.2.1 (toNat AB) oO).2.2 (λHm E9=>
        bif AA then
         bif (aD AB (length nh.2.2.2.1)) then
          gD N kR.2.1 (getD nh.2.2.2.1 (toNat AB) (0:Int)) (λmQ=>
           bif (aD mQ (length kR.2.1)) then
            bif (aD AB (length nh.2.2.1)) then
             bif (aD AB (length nh.2.2.1)) then
              dI N (getD kR.2.1 (toNat mQ) dY).2.2 (getD nh.2.2.1 (toNat AB) ff).1 (λSq=>
               dI N Sq (getD nh.2.2.1 (toNat AB) ff).2 (λMv=>
                bif (aD mQ (length kR.2.1)) then
                 (eS N nh ahY Zl E8) (Hm,((List.set kR.2.1 (toNat mQ) ((getD kR.2.1 (toNat mQ) dY).1,((getD kR.2.1 (toNat mQ) dY).2.1,Mv))),kR.2.2)) E9 (wrap .i64 (AB+(1:Int)))
                else none))
             else none
            else none
           else none)
         else none
        else
         bif (aD AB (length nh.2.2.2.1)) then
          gD N kR.2.1 (getD nh.2.2.2.1 (toNat AB) (0:Int)) (λmR=>
           bif (aD mR (length kR.2.1)) then
            bif (aD AB (length nh.2.2.1)) then
             bif (aD AB (length nh.2.2.1)) then
              dI N (getD kR.2.1 (toNat mR) dY).2.2 (getD nh.2.2.1 (toNat AB) ff).1 (λKO=>
               dI N KO (getD nh.2.2.1 (toNat AB) ff).2 (λMw=>
                bif (aD mR (length kR.2.1)) then
                 (eS N nh ahY Zl E8) (Hm,((List.set kR.2.1 (toNat mR) ((getD kR.2.1 (toNat mR) dY).1,((getD kR.2.1 (toNat mR) dY).2.1,Mw))),kR.2.2)) false (wrap .i64 (AB+(1:Int)))
                else none))
             else none
            else none
           else none)
         else none))
     else none
    else none
   else none
  else
   E8 kR AA
def p7 (N:Nat) (a0:QC) (kf:QC->Bool->Option aa):Option aa:=
 fq N a0 (λx7=>
  pY N a0 (λfV=>
   bif (!fV) then
    kf x7 false
   else
    kI N a0 (λSm=>
     bif (!Sm) then
      kf x7 false
     else
      uu N a0 (λVE=>
       bif (decide ((length VE:Int)>(0:Int))) then
        kf x7 false
       else
        eS N a0 (([]:(List QT)),(([]:(List QJ)),(([]:(List bE)),(([]:(List Int)),(([]:(List QB)),(([]:(List QL)),(0:Int))))))) N (λahZ aqX=>
         ft N a0 (ahZ.1,(ahZ.2.1,(([]:(List bE)),(([]:(List Int)),(([]:(List QB)),(ahZ.2.2.2.2.2.1,(wrap .i64 (a0.2.2.2.2.2.2+(length a0.2.2.1:Int))))))))) aqX (5:Int) (0:Int) kf) x7 true (0:Int)))))
def xf (N:Nat) (a0:jX) (a1:(List Int)) (kf:Int->jX->Option aa):Option aa:=
 b7 N a0 (length a1:Int) (λp5 abL=>
  bif (aD p5 (length a1)) then
   kf (getD a1 (toNat p5) (0:Int)) abL
  else none)
def oe (N:Nat) (a0:QC) (a1:Int) (a2:Int) (a3:Int) (kf:QC->Bool->Option aa):Option aa:=
 fq N a0 (λic=>
  pY N a0 (λDp=>
   bif (!Dp) then
    kf ic false
   else
    bn N a1 (0:Int) (wrap .i64 ((length a0.2.2.1:Int) - (1:Int))) (λaA=>
     bif (!aA) then
      kf ic false
     else
      bif (aD a1 (length a0.2.2.2.2.1)) then
       bif (!((decide (((getD a0.2.2.2.2.1 (toNat a1) oO).1:Int)=(0:Int)))&&((decide (((getD a0.2.2.2.2.1 (toNat a1) oO).2.1:Int)=(0:Int)))&&(decide (((getD a0.2.2.2.2.1 (toNat a1) oO).2.2:Int)=(0:Int)))))) then
        kf ic false
       else
        bif (aD a1 (length a0.2.2.2.1)) then
         bif (aD a1 (length ic.2.2.2.2.1)) then
          bif (aD a1 (length (List.set ic.2.2.2.2.1 (toNat a1) ((getD a0.2.2.2.1 (toNat a1) (0:Int)),(a2,a3))))) then
           bif (aD a1 (length a0.2.2.2.1)) then
            kj N (getD (List.set ic.2.2.2.2.1 (toNat a1) ((getD a0.2.2.2.1 (toNat a1) (0:Int)),(a2,a3))) (toNat a1) oO) (λahQ=>
             ft N a0 (ic.1,(ic.2.1,(ic.2.2.1,(ic.2.2.2.1,((List.set ic.2.2.2.2.1 (toNat a1) ((getD a0.2.2.2.1 (toNat a1) (0:Int)),(a2,a3))),ic.2.2.2.2.2))))) ahQ (4:Int) (getD a0.2.2.2.1 (toNat a1) (0:Int)) kf)
           else none
          else none
         else none
        else none
      else none)))
def bO (N:Nat) (adR:QC):Nat->(jX->QC->Option aa)->jX->QC->Int->Option aa
 |0,_,_,_,_=>none
 |akV+1,Ho,amR,VF,Zo=>
  bif (decide (Zo>(0:Int))) then
   b7 N amR (4:Int) (λah0 adS=>
    bif (ah0==(0:Int)) then
     oT N VF (λaoj ate=>
      (bO N adR akV Ho) adS aoj (wrap .i64 (Zo - (1:Int))))
    else
     bif (ah0==(1:Int)) then
      p7 N VF (λaok atf=>
       (bO N adR akV Ho) adS aok (wrap .i64 (Zo - (1:Int))))
     else
      uu N VF (λabV=>
       bif (decide ((length abV:Int)>(0:Int))) then
        b7 N adS (20:Int) (λah1 aqY=>
         bif (aD (0:Int) (length abV)) then
          xf N aqY [(-2:Int),(1:Int),(3:Int)] (λaol aqZ=>
           oe N VF (getD abV (toNat (0:Int)) (0:Int)) (wrap .i64 ((60:Int)+ah1)) (wrap .i64 ((wrap .i64 ((60:Int)+ah1))+aol)) (λaom atg=>
            (bO N adR akV Ho) aqZ aom (wrap .i64 (Zo - (1:Int)))))
         else none)
       else
        oT N VF (λaon ath=>
         (bO N adR akV Ho) adS aon (wrap .i64 (Zo - (1:Int))))))
  else
   Ho amR VF
def jB (N:Nat) (hJ:QC):Nat->(jX->QC->Option aa)->jX->QC->Int->Option aa
 |0,_,_,_,_=>none
 |BX+1,pv,KM,eJ,Sr=>
  b7 N KM (3:Int) (λaq0 akS=>
   bif (decide (Sr<=(wrap .i64 ((2:Int)*(wrap .i64 ((1:Int)+aq0)))))) then
    rv N eJ (wrap .i64 ((2:Int)*Sr)) (wrap .i64 ((1:Int)+(Int.tmod Sr (3:Int)))) (λaq1 ati=>
     (jB N hJ BX pv) akS aq1 (wrap .i64 (Sr+(1:Int))))
   else
    pv akS eJ)
def jC (N:Nat) (aq2:QC):Nat->(jX->QC->Option aa)->jX->QC->Int->Option aa
 |0,_,_,_,_=>none
 |atj+1,adT,aq3,amS,ah2=>
  b7 N aq3 (4:Int) (λaoo amT=>
   bif (decide (ah2<=(wrap .i64 ((2:Int)+aoo)))) then
    b7 N amT (2:Int) (λaop aq4=>
     pZ N amS (wrap .i64 ((10:Int)+ah2)) (wrap .i64 ((4:Int)+aop)) (λaoq atk=>
      (jC N aq2 atj adT) aq4 aoq (wrap .i64 (ah2+(1:Int)))))
   else
    adT amT amS)
def zX (N:Nat) (a0:jX) (kf:QC->jX->Option aa):Option aa:=
 E0 N (λp5=>
  jB N (([]:(List QT)),(([]:(List QJ)),(([]:(List bE)),(([]:(List Int)),(([]:(List QB)),(([]:(List QL)),(0:Int))))))) N (λaq5 ah3=>
   jC N (([]:(List QT)),(([]:(List QJ)),(([]:(List bE)),(([]:(List Int)),(([]:(List QB)),(([]:(List QL)),(0:Int))))))) N (λaq6 aq7=>
    b7 N aq6 (9:Int) (λaor aq8=>
     bO N (([]:(List QT)),(([]:(List QJ)),(([]:(List bE)),(([]:(List Int)),(([]:(List QB)),(([]:(List QL)),(0:Int))))))) N (λaq9 aq'=>
      kf aq' aq9) aq8 aq7 aor)) aq5 ah3 (1:Int)) a0 p5 (1:Int))
def AD (N:Nat) (a0:jX) (a1:(List ByteArray)) (kf:ByteArray->jX->Option aa):Option aa:=
 b7 N a0 (length a1:Int) (λp5 abL=>
  bif (aD p5 (length a1)) then
   kf (getD a1 (toNat p5) ByteArray.empty) abL
  else none)
def zY (N:Nat) (a0:jX) (kf:ByteArray->jX->Option aa):Option aa:=
 AD N a0 [Vz,mv,mw,za,zb,zd,jo,td,th,KL,mg,mh,mj,pn,Mo,BR,BS,lW,xC,xD,oP,ue,qx,jw,fS,JO,lX,JP,np,ze,cB,FW,Se,EY,oZ,FX,zf,FY] kf
def iW (N:Nat) (a0:(List Int)) (kf:QC->ByteArray->Option aa):Option aa:=
 EZ N a0 (λx8=>
  zX N x8 (λabO akW=>
   zY N akW (λara atW=>
    kf abO ara)))
def S15 (N:Nat) (a0:ByteArray) (a1:ByteArray) (kf:(List ByteArray)->Option aa):Option aa:=
 bif (Nat.blt (ByteArray.size a0) 4294967281&&Nat.beq (ByteArray.size a1) 1) then
  kf (w9 a0 a1)
 else none
def S48 (N:Nat) (a0:(List Int)) (kf:(List Int)->Option aa):Option aa:=
 bif (List.isEmpty a0) then
  both (kf ([]:(List Int))) (
   bif (decide ((length ([]:(List Int))+length a0)*1<=4398046511104)) then
    kf (([]:(List Int))++a0)
   else none)
 else
  bif (decide ((length ([]:(List Int))+length a0)*1<=4398046511104)) then
   kf (([]:(List Int))++a0)
  else none
def fN (N:Nat) (bR:(List QT)) (q8:Int):Nat->((List QT)->Option aa)->(List QT)->Int->Option aa
 |0,_,_,_=>none
 |po+1,bF,bg,iX=>
  bif (decide (iX<q8)) then
   bif (aD iX (length bR)) then
    S48 N (getD bR (toNat iX) an).2.2.2.2.2 (λuv=>
     bif (decide ((length bg+length [((getD bR (toNat iX) an).1,((getD bR (toNat iX) an).2.1,((getD bR (toNat iX) an).2.2.1,((getD bR (toNat iX) an).2.2.2.1,((getD bR (toNat iX) an).2.2.2.2.1,uv)))))])*6<=4398046511104)) then
      (fN N bR q8 po bF) (bg++[((getD bR (toNat iX) an).1,((getD bR (toNat iX) an).2.1,((getD bR (toNat iX) an).2.2.1,((getD bR (toNat iX) an).2.2.2.1,((getD bR (toNat iX) an).2.2.2.2.1,uv)))))]) (wrap .i64 (iX+(1:Int)))
     else none)
   else none
  else
   bF bg
def jD (N:Nat) (a0:(List QT)) (kf:(List QT)->Option aa):Option aa:=
 fN N a0 (length a0:Int) N kf ([]:(List QT)) (0:Int)
def eK (N:Nat) (bR:(List QJ)) (q8:Int):Nat->((List QJ)->Option aa)->(List QJ)->Int->Option aa
 |0,_,_,_=>none
 |po+1,bF,bg,iX=>
  bif (decide (iX<q8)) then
   bif (aD iX (length bR)) then
    S48 N (getD bR (toNat iX) dY).2.2 (λuv=>
     bif (decide ((length bg+length [((getD bR (toNat iX) dY).1,((getD bR (toNat iX) dY).2.1,uv))])*3<=4398046511104)) then
      (eK N bR q8 po bF) (bg++[((getD bR (toNat iX) dY).1,((getD bR (toNat iX) dY).2.1,uv))]) (wrap .i64 (iX+(1:Int)))
     else none)
   else none
  else
   bF bg
def qy (N:Nat) (a0:(List QJ)) (kf:(List QJ)->Option aa):Option aa:=
 eK N a0 (length a0:Int) N kf ([]:(List QJ)) (0:Int)
def S47 (N:Nat) (a0:(List bE)) (kf:(List bE)->Option aa):Option aa:=
 bif (List.isEmpty a0) then
  both (kf ([]:(List bE))) (
   bif (decide ((length ([]:(List bE))+length a0)*2<=4398046511104)) then
    kf (([]:(List bE))++a0)
   else none)
 else
  bif (decide ((length ([]:(List bE))+length a0)*2<=4398046511104)) then
   kf (([]:(List bE))++a0)
  else none
def S49 (N:Nat) (a0:(List QB)) (kf:(List QB)->Option aa):Option aa:=
 bif (List.isEmpty a0) then
  both (kf ([]:(List QB))) (
   bif (decide ((length ([]:(List QB))+length a0)*3<=4398046511104)) then
    kf (([]:(List QB))++a0)
   else none)
 else
  bif (decide ((length ([]:(List QB))+length a0)*3<=4398046511104)) then
   kf (([]:(List QB))++a0)
  else none
def S50 (N:Nat) (a0:(List QL)) (kf:(List QL)->Option aa):Option aa:=
 bif (List.isEmpty a0) then
  both (kf ([]:(List QL))) (
   bif (decide ((length ([]:(List QL))+length a0)*4<=4398046511104)) then
    kf (([]:(List QL))++a0)
   else none)
 else
  bif (decide ((length ([]:(List QL))+length a0)*4<=4398046511104)) then
   kf (([]:(List QL))++a0)
  else none
def aF (N:Nat) (a0:QC) (kf:QC->Option aa):Option aa:=
 jD N a0.1 (λGA=>
  qy N a0.2.1 (λaob=>
   S47 N a0.2.2.1 (λZp=>
    S48 N a0.2.2.2.1 (λZd=>
     S49 N a0.2.2.2.2.1 (λahJ=>
      S50 N a0.2.2.2.2.2.1 (λarb=>
       kf (GA,(aob,(Zp,(Zd,(ahJ,(arb,a0.2.2.2.2.2.2))))))))))))
def arc (N:Nat) (a0:ByteArray) (a1:Int) (kf:Int->Option aa):Option aa:=
 kf (Sb a0 a1)
def aos (N:Nat) (a0:(List Int)) (a1:Int) (kf:(List Int)->Option aa):Option aa:=
 bif (List.isEmpty a0&&(decide ((0:Int)<=a1)&&decide (a1<=(549755813888:Int)))) then
  kf ([]:List Int)
 else none
def cq (sE:(List (List Int))) (ah4:Int):Nat->((List Int)->Option aa)->(List Int)->Int->Option aa
 |0,_,_,_=>none
 |akX+1,Du,zh,Ss=>
  bif (decide (Ss<ah4)) then
   bif (aD Ss (length sE)) then
    bif (decide ((length zh+length (getD sE (toNat Ss) ([]:(List Int))))*1<=4398046511104)) then
     (cq sE ah4 akX Du) (zh++(getD sE (toNat Ss) ([]:(List Int)))) (wrap .i64 (Ss+(1:Int)))
    else none
   else none
  else
   Du zh
def dJ (ae:(List (List Int))) (sF:(List (List Int))) (jq:Int):Nat->(Int->Option aa)->Int->Int->Option aa
 |0,_,_,_=>none
 |BX+1,bF,ao,qK=>
  bif (decide (qK<jq)) then
   bif (aD qK (length sF)) then
    bif (decide ((wrap .i64 (ao+(length (getD sF (toNat qK) ([]:(List Int))):Int)))<(0:Int))) then
     none
    else
     (dJ ae sF jq BX bF) (wrap .i64 (ao+(length (getD sF (toNat qK) ([]:(List Int))):Int))) (wrap .i64 (qK+(1:Int)))
   else none
  else
   bF ao
def lB (N:Nat) (a0:(List (List Int))) (kf:(List Int)->Option aa):Option aa:=
 dJ a0 a0 (length a0:Int) N (λaot=>
  aos N ([]:(List Int)) aot (λaou=>
   cq a0 (length a0:Int) N kf aou (0:Int))) (0:Int) (0:Int)
def ard (self:ByteArray->((List Int)->ByteArray->Bool->Option aa)->Option aa) (N:Nat) (a0:ByteArray) (kf:(List Int)->ByteArray->Bool->Option aa):Option aa:=
 bif (ByteArray.toList a0==ByteArray.toList EY) then
  kf ([]:(List Int)) EY false
 else
  bif (aD (0:Int) (ByteArray.size a0)) then
   bif ((bt a0 (0:Int))==(33:Int)) then
    bif (decide ((0:Int)<=(1:Int))&&decide ((1:Int)<=(ByteArray.size a0:Int))&&decide ((ByteArray.size a0:Int)<=(ByteArray.size a0:Int))) then
     self (ByteArray.extract a0 (toNat (1:Int)) (toNat (ByteArray.size a0:Int))) (λamU are aA=>
      bif (decide ((length amU+length [(-1:Int)])*1<=4398046511104)) then
       kf (amU++[(-1:Int)]) are aA
      else none)
    else none
   else
    bif (aD (0:Int) (ByteArray.size a0)) then
     bif ((bt a0 (0:Int))==(40:Int)) then
      bif (decide ((0:Int)<=(1:Int))&&decide ((1:Int)<=(ByteArray.size a0:Int))&&decide ((ByteArray.size a0:Int)<=(ByteArray.size a0:Int))) then
       self (ByteArray.extract a0 (toNat (1:Int)) (toNat (ByteArray.size a0:Int))) (λZq JR arf=>
        bif (!arf) then
         kf ([]:(List Int)) EY false
        else
         bif (ByteArray.toList JR==ByteArray.toList EY) then
          kf ([]:(List Int)) EY false
         else
          bif (aD (0:Int) (ByteArray.size JR)) then
           arc N xb (bt JR (0:Int)) (λamV=>
            bif (decide ((0:Int)<=(1:Int))&&decide ((1:Int)<=(ByteArray.size JR:Int))&&decide ((ByteArray.size JR:Int)<=(ByteArray.size JR:Int))) then
             self (ByteArray.extract JR (toNat (1:Int)) (toNat (ByteArray.size JR:Int))) (λarh P1 aov=>
              bif (decide (amV<(0:Int))) then
               kf ([]:(List Int)) EY false
              else
               bif (!aov) then
                kf ([]:(List Int)) EY false
               else
                bif (ByteArray.toList P1==ByteArray.toList EY) then
                 kf ([]:(List Int)) EY false
                else
                 bif (aD (0:Int) (ByteArray.size P1)) then
                  bif ((bt P1 (0:Int)) != (41:Int)) then
                   kf ([]:(List Int)) EY false
                  else
                   bif (decide ((0:Int)<=(1:Int))&&decide ((1:Int)<=(ByteArray.size P1:Int))&&decide ((ByteArray.size P1:Int)<=(ByteArray.size P1:Int))) then
                    lB N [Zq,arh,[(wrap .i64 ((-2:Int) - amV))]] (λaow=>
                     kf aow (ByteArray.extract P1 (toNat (1:Int)) (toNat (ByteArray.size P1:Int))) true)
                   else none
                 else none)
            else none)
          else none)
      else none
     else
      bif (aD (0:Int) (ByteArray.size a0)) then
       bif (decide ((0:Int)<=(1:Int))&&decide ((1:Int)<=(ByteArray.size a0:Int))&&decide ((ByteArray.size a0:Int)<=(ByteArray.size a0:Int))) then
        kf [(wrap .i64 ((wrap .i64 (bt a0 (0:Int))) - (97:Int)))] (ByteArray.extract a0 (toNat (1:Int)) (toNat (ByteArray.size a0:Int))) true
       else none
      else none
    else none
  else none
def I94:Nat->ByteArray->((List Int)->ByteArray->Bool->Option aa)->Option aa
 |0,_,_=>none
 |N+1,a0,kf=>ard (I94 N) N a0 kf
def aw (N:Nat) (a0:Int) (a1:Int) (a2:Int) (kf:Bool->Option aa):Option aa:=
 bif (decide (a1<=a0)) then
  kf (decide (a0<=a2))
 else
  kf false
def nJ (ae:Int):Nat->(Int->Option aa)->Int->Int->Option aa
 |0,_,_,_=>none
 |Iu+1,iU,ao,aY=>
  bif (decide (aY<(64:Int))) then
   bif (decide (0<=ae)) then
    bif ((wrap .i64 (BitVec.toNat (BitVec.ofInt (IntKind.bits .i64) (Int.fdiv aY (2^(min (toNat ae) (IntKind.bits .i64))))&&&BitVec.ofInt (IntKind.bits .i64) (1:Int))))==(1:Int)) then
     bif (decide (0<=aY)) then
      (nJ ae Iu iU) (wrap .u64 (BitVec.toNat (BitVec.ofInt (IntKind.bits .u64) ao|||BitVec.ofInt (IntKind.bits .u64) (wrap .u64 ((1:Int)*2^(min (toNat aY) (IntKind.bits .u64))))))) (wrap .i64 (aY+(1:Int)))
     else none
    else
     (nJ ae Iu iU) ao (wrap .i64 (aY+(1:Int)))
   else none
  else
   iU ao
def F0 (N:Nat) (a0:Int) (kf:Int->Option aa):Option aa:=
 nJ a0 N kf (0:Int) (0:Int)
def kK (N:Nat) (F3:(List Int)) (VG:Int):Nat->((List Int)->Option aa)->(Int->Bool->Option aa)->(List Int)->Int->Option aa
 |0,_,_,_,_=>none
 |BX+1,Ix,Fa,fY,Dv=>
  bif (decide (Dv<VG)) then
   bif (aD Dv (length F3)) then
    aw N (getD F3 (toNat Dv) (0:Int)) (0:Int) (5:Int) (λMy=>
     bif My then
      F0 N (getD F3 (toNat Dv) (0:Int)) (λamW=>
       bif (decide ((length fY+length [amW])*1<=4398046511104)) then
        (kK N F3 VG BX Ix Fa) (fY++[amW]) (wrap .i64 (Dv+(1:Int)))
       else none)
     else
      let ari:Option aa:=(
       aw N (getD F3 (toNat Dv) (0:Int)) (-4:Int) (-2:Int) (λarj=>
        bif arj then
         bif (decide ((length fY:Int)≥(2:Int))) then
          bif (aD (wrap .i64 ((length fY:Int) - (2:Int))) (length fY)) then
           bif (aD (wrap .i64 ((length fY:Int) - (1:Int))) (length fY)) then
            bif (decide ((0:Int)<=(0:Int))&&decide ((0:Int)<=(wrap .i64 ((length fY:Int) - (1:Int))))&&decide ((wrap .i64 ((length fY:Int) - (1:Int)))<=(length fY:Int))) then
             bif ((getD F3 (toNat Dv) (0:Int))==(-2:Int)) then
              bif (aD (wrap .i64 ((length fY:Int) - (2:Int))) (length (List.take (toNat (wrap .i64 ((length fY:Int) - (1:Int)))) fY))) then
               (kK N F3 VG BX Ix Fa) (List.set (List.take (toNat (wrap .i64 ((length fY:Int) - (1:Int)))) fY) (toNat (wrap .i64 ((length fY:Int) - (2:Int)))) (wrap .u64 (BitVec.toNat (BitVec.ofInt (IntKind.bits .u64) (getD fY (toNat (wrap .i64 ((length fY:Int) - (2:Int)))) (0:Int))&&&BitVec.ofInt (IntKind.bits .u64) (getD fY (toNat (wrap .i64 ((length fY:Int) - (1:Int)))) (0:Int)))))) (wrap .i64 (Dv+(1:Int)))
              else none
             else
              bif ((getD F3 (toNat Dv) (0:Int))==(-3:Int)) then
               bif (aD (wrap .i64 ((length fY:Int) - (2:Int))) (length (List.take (toNat (wrap .i64 ((length fY:Int) - (1:Int)))) fY))) then
                (kK N F3 VG BX Ix Fa) (List.set (List.take (toNat (wrap .i64 ((length fY:Int) - (1:Int)))) fY) (toNat (wrap .i64 ((length fY:Int) - (2:Int)))) (wrap .u64 (BitVec.toNat (BitVec.ofInt (IntKind.bits .u64) (getD fY (toNat (wrap .i64 ((length fY:Int) - (2:Int)))) (0:Int))|||BitVec.ofInt (IntKind.bits .u64) (getD fY (toNat (wrap .i64 ((length fY:Int) - (1:Int)))) (0:Int)))))) (wrap .i64 (Dv+(1:Int)))
               else none
              else
               bif (aD (wrap .i64 ((length fY:Int) - (2:Int))) (length (List.take (toNat (wrap .i64 ((length fY:Int) - (1:Int)))) fY))) then
                (kK N F3 VG BX Ix Fa) (List.set (List.take (toNat (wrap .i64 ((length fY:Int) - (1:Int)))) fY) (toNat (wrap .i64 ((length fY:Int) - (2:Int)))) (wrap .u64 (BitVec.toNat (BitVec.ofInt (IntKind.bits .u64) (an' .u64 (getD fY (toNat (wrap .i64 ((length fY:Int) - (2:Int)))) (0:Int)))|||BitVec.ofInt (IntKind.bits .u64) (getD fY (toNat (wrap .i64 ((length fY:Int) - (1:Int)))) (0:Int)))))) (wrap .i64 (Dv+(1:Int)))
               else none
            else none
           else none
          else none
         else
          Fa (0:Int) false
        else
         Fa (0:Int) false));
      bif ((getD F3 (toNat Dv) (0:Int))==(-1:Int)) then
       bif (decide ((length fY:Int)≥(1:Int))) then
        bif (aD (wrap .i64 ((length fY:Int) - (1:Int))) (length fY)) then
         bif (aD (wrap .i64 ((length fY:Int) - (1:Int))) (length fY)) then
          (kK N F3 VG BX Ix Fa) (List.set fY (toNat (wrap .i64 ((length fY:Int) - (1:Int)))) (an' .u64 (getD fY (toNat (wrap .i64 ((length fY:Int) - (1:Int)))) (0:Int)))) (wrap .i64 (Dv+(1:Int)))
         else none
        else none
       else
        ari
      else
       ari)
   else none
  else
   Ix fY
def BY (N:Nat) (a0:(List Int)) (kf:Int->Bool->Option aa):Option aa:=
 aw N (length a0:Int) (1:Int) (24:Int) (λx7=>
  bif (!x7) then
   kf (0:Int) false
  else
   kK N a0 (length a0:Int) N (λah5=>
    bif (aD (0:Int) (length ah5)) then
     kf (getD ah5 (toNat (0:Int)) (0:Int)) ((length ah5:Int)==(1:Int))
    else none) kf ([]:(List Int)) (0:Int))
def Hp (N:Nat) (a0:(List Int)) (kf:Bool->Option aa):Option aa:=
 BY N a0 (λx8 ah6=>
  kf ah6)
def jO (gu:(List Int)) (cD:Int):Nat->((List ByteArray)->Option aa)->(List ByteArray)->Int->Option aa
 |0,_,_,_=>none
 |BX+1,WV,ao,gF=>
  bif (decide (gF<cD)) then
   bif (aD gF (length gu)) then
    bif (decide ((getD gu (toNat gF) (0:Int))≥(0:Int))) then
     bif (decide ((0:Int)<=(getD gu (toNat gF) (0:Int)))&&decide ((getD gu (toNat gF) (0:Int))<=(wrap .i64 ((getD gu (toNat gF) (0:Int))+(1:Int))))&&decide ((wrap .i64 ((getD gu (toNat gF) (0:Int))+(1:Int)))<=(ByteArray.size Sf:Int))) then
      bif (decide ((length ao+length [(ByteArray.extract Sf (toNat (getD gu (toNat gF) (0:Int))) (toNat (wrap .i64 ((getD gu (toNat gF) (0:Int))+(1:Int)))))])*1<=4398046511104)) then
       (jO gu cD BX WV) (ao++[(ByteArray.extract Sf (toNat (getD gu (toNat gF) (0:Int))) (toNat (wrap .i64 ((getD gu (toNat gF) (0:Int))+(1:Int)))))]) (wrap .i64 (gF+(1:Int)))
      else none
     else none
    else
     bif ((getD gu (toNat gF) (0:Int))==(-1:Int)) then
      bif (aD (wrap .i64 ((length ao:Int) - (1:Int))) (length ao)) then
       bif (decide (ByteArray.size amM+ByteArray.size (getD ao (toNat (wrap .i64 ((length ao:Int) - (1:Int)))) ByteArray.empty)<=9223372036854775807)) then
        bif (aD (wrap .i64 ((length ao:Int) - (1:Int))) (length ao)) then
         (jO gu cD BX WV) (List.set ao (toNat (wrap .i64 ((length ao:Int) - (1:Int)))) (amM++(getD ao (toNat (wrap .i64 ((length ao:Int) - (1:Int)))) ByteArray.empty))) (wrap .i64 (gF+(1:Int)))
        else none
       else none
      else none
     else
      bif (aD (wrap .i64 ((length ao:Int) - (2:Int))) (length ao)) then
       bif (decide (ByteArray.size VA+ByteArray.size (getD ao (toNat (wrap .i64 ((length ao:Int) - (2:Int)))) ByteArray.empty)<=9223372036854775807)) then
        bif (decide ((0:Int)<=(wrap .i64 ((-2:Int) - (getD gu (toNat gF) (0:Int)))))&&decide ((wrap .i64 ((-2:Int) - (getD gu (toNat gF) (0:Int))))<=(wrap .i64 ((wrap .i64 ((-2:Int) - (getD gu (toNat gF) (0:Int))))+(1:Int))))&&decide ((wrap .i64 ((wrap .i64 ((-2:Int) - (getD gu (toNat gF) (0:Int))))+(1:Int)))<=(ByteArray.size xb:Int))) then
         bif (decide (ByteArray.size (VA++(getD ao (toNat (wrap .i64 ((length ao:Int) - (2:Int)))) ByteArray.empty))+ByteArray.size (ByteArray.extract xb (toNat (wrap .i64 ((-2:Int) - (getD gu (toNat gF) (0:Int))))) (toNat (wrap .i64 ((wrap .i64 ((-2:Int) - (getD gu (toNat gF) (0:Int))))+(1:Int)))))<=9223372036854775807)) then
          bif (aD (wrap .i64 ((length ao:Int) - (1:Int))) (length ao)) then
           bif (decide (ByteArray.size ((VA++(getD ao (toNat (wrap .i64 ((length ao:Int) - (2:Int)))) ByteArray.empty))++(ByteArray.extract xb (toNat (wrap .i64 ((-2:Int) - (getD gu (toNat gF) (0:Int))))) (toNat (wrap .i64 ((wrap .i64 ((-2:Int) - (getD gu (toNat gF) (0:Int))))+(1:Int))))))+ByteArray.size (getD ao (toNat (wrap .i64 ((length ao:Int) - (1:Int)))) ByteArray.empty)<=9223372036854775807)) then
            bif (decide (ByteArray.size (((VA++(getD ao (toNat (wrap .i64 ((length ao:Int) - (2:Int)))) ByteArray.empty))++(ByteArray.extract xb (toNat (wrap .i64 ((-2:Int) - (getD gu (toNat gF) (0:Int))))) (toNat (wrap .i64 ((wrap .i64 ((-2:Int) - (getD gu (toNat gF) (0:Int))))+(1:Int))))))++(getD ao (toNat (wrap .i64 ((length ao:Int) - (1:Int)))) ByteArray.empty))+ByteArray.size ahH<=9223372036854775807)) then
             bif (aD (wrap .i64 ((length ao:Int) - (2:Int))) (length ao)) then
              bif (decide ((0:Int)<=(0:Int))&&decide ((0:Int)<=(wrap .i64 ((length ao:Int) - (1:Int))))&&decide ((wrap .i64 ((length ao:Int) - (1:Int)))<=(length (List.set ao (toNat (wrap .i64 ((length ao:Int) - (2:Int)))) ((((VA++(getD ao (toNat (wrap .i64 ((length ao:Int) - (2:Int)))) ByteArray.empty))++(ByteArray.extract xb (toNat (wrap .i64 ((-2:Int) - (getD gu (toNat gF) (0:Int))))) (toNat (wrap .i64 ((wrap .i64 ((-2:Int) - (getD gu (toNat gF) (0:Int))))+(1:Int))))))++(getD ao (toNat (wrap .i64 ((length ao:Int) - (1:Int)))) ByteArray.empty))++ahH)):Int))) then
               (jO gu cD BX WV) (List.take (toNat (wrap .i64 ((length ao:Int) - (1:Int)))) (List.set ao (toNat (wrap .i64 ((length ao:Int) - (2:Int)))) ((((VA++(getD ao (toNat (wrap .i64 ((length ao:Int) - (2:Int)))) ByteArray.empty))++(ByteArray.extract xb (toNat (wrap .i64 ((-2:Int) - (getD gu (toNat gF) (0:Int))))) (toNat (wrap .i64 ((wrap .i64 ((-2:Int) - (getD gu (toNat gF) (0:Int))))+(1:Int))))))++(getD ao (toNat (wrap .i64 ((length ao:Int) - (1:Int)))) ByteArray.empty))++ahH))) (wrap .i64 (gF+(1:Int)))
              else none
             else none
            else none
           else none
          else none
         else none
        else none
       else none
      else none
   else none
  else
   WV ao
def Dw (N:Nat) (a0:(List Int)) (kf:ByteArray->Option aa):Option aa:=
 Hp N a0 (λp5=>
  bif (!p5) then
   kf EY
  else
   jO a0 (length a0:Int) N (λamX=>
    bif (aD (0:Int) (length amX)) then
     kf (getD amX (toNat (0:Int)) ByteArray.empty)
    else none) ([]:(List ByteArray)) (0:Int))
def BZ (N:Nat) (a0:ByteArray) (kf:(List Int)->Bool->Option aa):Option aa:=
 bif (decide ((ByteArray.size a0:Int)>(100:Int))) then
  kf ([]:(List Int)) false
 else
  I94 N a0 (λic ur Zp=>
   bif (!Zp) then
    kf ([]:(List Int)) false
   else
    bif (!(ByteArray.toList ur==ByteArray.toList EY)) then
     kf ([]:(List Int)) false
    else
     Dw N ic (λadU=>
      bif (!(ByteArray.toList adU==ByteArray.toList a0)) then
       kf ([]:(List Int)) false
      else
       kf ic true))
def wb (N:Nat) (a0:Int) (kf:Int->Option aa):Option aa:=
 bif (decide (0<=(1:Int))) then
  bif (decide (0<=(2:Int))) then
   bif (decide (0<=(4:Int))) then
    bif (decide (0<=(8:Int))) then
     bif (decide (0<=(16:Int))) then
      bif (decide (0<=(32:Int))) then
       let ark:Int:=(wrap .u64 (BitVec.toNat (BitVec.ofInt (IntKind.bits .u64) a0&&&BitVec.ofInt (IntKind.bits .u64) (6148914691236517205:Int))));
       let arl:Int:=(wrap .u64 (BitVec.toNat (BitVec.ofInt (IntKind.bits .u64) (Int.fdiv a0 (2^(min (toNat (1:Int)) (IntKind.bits .u64))))&&&BitVec.ofInt (IntKind.bits .u64) (6148914691236517205:Int))));
       let arn:Int:=(wrap .u64 (BitVec.toNat (BitVec.ofInt (IntKind.bits .u64) (wrap .u64 (arl+ark))&&&BitVec.ofInt (IntKind.bits .u64) (3689348814741910323:Int))));
       let aro:Int:=(wrap .u64 (BitVec.toNat (BitVec.ofInt (IntKind.bits .u64) (Int.fdiv (wrap .u64 (arl+ark)) (2^(min (toNat (2:Int)) (IntKind.bits .u64))))&&&BitVec.ofInt (IntKind.bits .u64) (3689348814741910323:Int))));
       let atl:Int:=(wrap .u64 ((Int.fdiv (wrap .u64 (aro+arn)) (2^(min (toNat (4:Int)) (IntKind.bits .u64))))+(wrap .u64 (aro+arn))));
       let arp:Int:=(wrap .u64 (BitVec.toNat (BitVec.ofInt (IntKind.bits .u64) atl&&&BitVec.ofInt (IntKind.bits .u64) (1085102592571150095:Int))));
       let arq:Int:=(wrap .u64 (arp+(Int.fdiv arp (2^(min (toNat (8:Int)) (IntKind.bits .u64))))));
       let ars:Int:=(wrap .u64 (arq+(Int.fdiv arq (2^(min (toNat (16:Int)) (IntKind.bits .u64))))));
       kf (wrap .i64 (BitVec.toNat (BitVec.ofInt (IntKind.bits .i64) (wrap .i64 (wrap .u64 (ars+(Int.fdiv ars (2^(min (toNat (32:Int)) (IntKind.bits .u64)))))))&&&BitVec.ofInt (IntKind.bits .i64) (127:Int))))
      else none
     else none
    else none
   else none
  else none
 else none
def Hq (N:Nat) (a0:(List Int)) (kf:Int->Option aa):Option aa:=
 BY N a0 (λx8 ah6=>
  bif (!ah6) then
   kf (0:Int)
  else
   wb N x8 kf)
def S75 (N:Nat) (a0:Int) (kf:ByteArray->Option aa):Option aa:=
 bif (decide ((-9223372036854775808:Int)<=a0)&&decide (a0<=(9223372036854775807:Int))) then
  kf (uc a0)
 else none
def aM (N:Nat) (a0:Int) (kf:ByteArray->Option aa):Option aa:=
 S75 N a0 kf
def JS (N:Nat) (a0:(List Int)) (kf:Bool->Option aa):Option aa:=
 BY N a0 (λx8 ah6=>
  bif ah6 then
   kf ((an' .u64 x8)==(0:Int))
  else
   kf false)
def KP (N:Nat) (a0:Bool) (kf:ByteArray->Option aa):Option aa:=
 bif a0 then
  kf amN
 else
  kf WN
def xg (N:Nat) (a0:(List ByteArray)) (kf:ByteArray->Option aa):Option aa:=
 bif ((length a0:Int) != (2:Int)) then
  kf oZ
 else
  bif (aD (1:Int) (length a0)) then
   BZ N (getD a0 (toNat (1:Int)) ByteArray.empty) (λx7 Sl=>
    bif (!Sl) then
     kf oZ
    else
     bif (aD (0:Int) (length a0)) then
      bif (ByteArray.toList (getD a0 (toNat (0:Int)) ByteArray.empty)==ByteArray.toList ahG) then
       Hq N x7 (λaA=>
        aM N aA kf)
      else
       JS N x7 (λah7=>
        KP N ah7 kf)
     else none)
  else none
def JT (a0:ByteArray) (kf:Int->Option aa) (art:Bool):Option aa:=
 bif art then
  kf (2:Int)
 else
  bif (ByteArray.toList a0==ByteArray.toList Y8) then
   kf (3:Int)
  else
   kf (-1:Int)
def JU (a0:ByteArray) (kf:Int->Option aa) (aru:Bool):Option aa:=
 bif aru then
  kf (1:Int)
 else
  bif (ByteArray.toList a0==ByteArray.toList abK) then
   JT a0 kf (ByteArray.toList a0==ByteArray.toList abK)
  else
   JT a0 kf (ByteArray.toList a0==ByteArray.toList WQ)
def fj (a0:ByteArray) (kf:Int->Option aa) (atm:Bool):Option aa:=
 bif atm then
  kf (0:Int)
 else
  bif (ByteArray.toList a0==ByteArray.toList WO) then
   JU a0 kf (ByteArray.toList a0==ByteArray.toList WO)
  else
   JU a0 kf (ByteArray.toList a0==ByteArray.toList PX)
def Su (N:Nat) (a0:ByteArray) (kf:Int->Option aa):Option aa:=
 bif (ByteArray.toList a0==ByteArray.toList Vz) then
  fj a0 kf (ByteArray.toList a0==ByteArray.toList Vz)
 else
  bif (ByteArray.toList a0==ByteArray.toList KL) then
   fj a0 kf (ByteArray.toList a0==ByteArray.toList KL)
  else
   bif (ByteArray.toList a0==ByteArray.toList Mo) then
    fj a0 kf (ByteArray.toList a0==ByteArray.toList Mo)
   else
    bif (ByteArray.toList a0==ByteArray.toList lW) then
     fj a0 kf (ByteArray.toList a0==ByteArray.toList lW)
    else
     bif (ByteArray.toList a0==ByteArray.toList xC) then
      fj a0 kf (ByteArray.toList a0==ByteArray.toList xC)
     else
      bif (ByteArray.toList a0==ByteArray.toList xD) then
       fj a0 kf (ByteArray.toList a0==ByteArray.toList xD)
      else
       bif (ByteArray.toList a0==ByteArray.toList oP) then
        fj a0 kf (ByteArray.toList a0==ByteArray.toList oP)
       else
        bif (ByteArray.toList a0==ByteArray.toList ue) then
         fj a0 kf (ByteArray.toList a0==ByteArray.toList ue)
        else
         bif (ByteArray.toList a0==ByteArray.toList qx) then
          fj a0 kf (ByteArray.toList a0==ByteArray.toList qx)
         else
          bif (ByteArray.toList a0==ByteArray.toList jw) then
           fj a0 kf (ByteArray.toList a0==ByteArray.toList jw)
          else
           fj a0 kf (ByteArray.toList a0==ByteArray.toList fS)
def xh (ae:ByteArray) (amY:Int):Nat->(Int->Option aa)->(Int->Bool->Option aa)->Int->Int->Option aa
 |0,_,_,_,_=>none
 |po+1,ah8,abW,fY,P3=>
  bif (decide (P3<amY)) then
   bif (aD P3 (ByteArray.size ae)) then
    bif (decide ((bt ae P3)<(48:Int))) then
     abW (0:Int) false
    else
     bif (aD P3 (ByteArray.size ae)) then
      bif (decide ((bt ae P3)>(57:Int))) then
       abW (0:Int) false
      else
       bif (aD P3 (ByteArray.size ae)) then
        (xh ae amY po ah8 abW) (wrap .i64 ((wrap .i64 ((10:Int)*fY))+(wrap .i64 (wrap .u8 ((bt ae P3) - (48:Int)))))) (wrap .i64 (P3+(1:Int)))
       else none
     else none
   else none
  else
   ah8 fY
def Dx (N:Nat) (a0:ByteArray) (kf:Int->Bool->Option aa):Option aa:=
 xh a0 (ByteArray.size a0:Int) N (λarv=>
  bif (decide (arv>(1000000000000:Int))) then
   kf (0:Int) false
  else
   kf arv true) kf (0:Int) (0:Int)
def JV (N:Nat) (a0:ByteArray) (kf:Int->Bool->Option aa):Option aa:=
 bif ((ByteArray.size a0:Int)==(0:Int)) then
  kf (0:Int) false
 else
  bif (decide ((ByteArray.size a0:Int)>(13:Int))) then
   kf (0:Int) false
  else
   bif (decide ((ByteArray.size a0:Int)>(1:Int))) then
    bif (aD (0:Int) (ByteArray.size a0)) then
     bif ((bt a0 (0:Int))==(48:Int)) then
      kf (0:Int) false
     else
      Dx N a0 kf
    else none
   else
    Dx N a0 kf
def zZ (N:Nat) (kf:QC->Option aa):Option aa:=
 kf (([]:(List QT)),(([]:(List QJ)),(([]:(List bE)),(([]:(List Int)),(([]:(List QB)),(([]:(List QL)),(0:Int)))))))
def rZ (N:Nat) (a0:QT) (a1:Int) (kf:Bool->Option aa):Option aa:=
 kf (a0.1==a1)
def aS (N:Nat) (ae:(List QT)) (aj:Int) (Dy:Int):Nat->(Option aa)->(Int->Option aa)->Int->Option aa
 |0,_,_,_=>none
 |po+1,iY,iZ,jP=>
  bif (decide (jP<Dy)) then
   bif (aD jP (length ae)) then
    rZ N (getD ae (toNat jP) an) aj (λja=>
     bif ja then
      iZ jP
     else
      (aS N ae aj Dy po iY iZ) (wrap .i64 (jP+(1:Int))))
   else none
  else
   iY
def dZ (N:Nat) (a0:(List QT)) (WW:Int) (kf:Int->Option aa):Option aa:=
 aS N a0 WW (length a0:Int) N (kf (-1:Int)) kf (0:Int)
def bL (N:Nat) (a0:(List QT)) (a1:Int) (kf:Int->Option aa):Option aa:=
 dZ N a0 a1 kf
def dL (N:Nat) (a0:QC) (kf:Bool->Option aa):Option aa:=
 kf (decide ((length a0.2.2.1:Int)>(0:Int)))
def akY (N:Nat) (a0:(List QT)) (a1:Int) (a2:(List QT)) (kf:(List QT)->Option aa):Option aa:=
 bif (decide ((0:Int)<=a1)&&(decide (a1<=(length a0:Int))&&(Nat.blt 0 (length a2)&&Nat.ble ((length a0+length a2)*Ty.size gm) 4398046511104))) then
  kf (List.take (toNat a1) a0++a2++List.drop (toNat a1) a0)
 else none
def CQ (N:Nat) (a0:(List QL)) (kf:Int->Option aa):Option aa:=
 bif ((length a0:Int)==(0:Int)) then
  kf (0:Int)
 else
  bif (aD (wrap .i64 ((length a0:Int) - (1:Int))) (length a0)) then
   kf (getD a0 (toNat (wrap .i64 ((length a0:Int) - (1:Int)))) Od).2.2.2
  else none
def Mz (N:Nat) (a0:Int) (a1:Int) (kf:Int->Option aa):Option aa:=
 aw N a1 (1:Int) (1000000000000:Int) (λx8=>
  bif (!x8) then
   kf (0:Int)
  else
   bif (!decide (a1=0)) then
    bif (decide ((Int.tmod a0 a1)<(0:Int))) then
     kf (wrap .i64 ((Int.tmod a0 a1)+a1))
    else
     kf (Int.tmod a0 a1)
   else none)
def Iy (N:Nat) (a0:Int) (a1:Int) (kf:Int->Option aa):Option aa:=
 Mz N a1 (2147483647:Int) (λUv=>
  kf (Int.tmod (wrap .i64 ((wrap .i64 ((wrap .i64 (a0*(1000003:Int)))+Uv))+(13:Int))) (2147483647:Int)))
def nK (N:Nat) (tL:(List Int)) (Dy:Int):Nat->(Int->Option aa)->Int->Int->Option aa
 |0,_,_,_=>none
 |po+1,bF,bg,jP=>
  bif (decide (jP<Dy)) then
   bif (aD jP (length tL)) then
    Iy N bg (getD tL (toNat jP) (0:Int)) (λah9=>
     (nK N tL Dy po bF) ah9 (wrap .i64 (jP+(1:Int))))
   else none
  else
   bF bg
def Iz (N:Nat) (a0:(List Int)) (kf:Int->Option aa):Option aa:=
 nK N a0 (length a0:Int) N kf (11:Int) (0:Int)
def l4 (N:Nat) (a0:Int) (a1:QL) (kf:Int->Option aa):Option aa:=
 Iz N [a0,a1.1,a1.2.1,a1.2.2.1] kf
def fO (N:Nat) (AE:(List QL)) (cE:Int):Nat->(Option aa)->(Bool->Option aa)->Int->Int->Option aa
 |0,_,_,_,_=>none
 |po+1,kL,r9,bg,og=>
  bif (decide (og<cE)) then
   bif (aD og (length AE)) then
    bif ((getD AE (toNat og) Od).1 != (wrap .i64 (og+(1:Int)))) then
     r9 false
    else
     aw N (getD AE (toNat og) Od).2.1 (1:Int) (9:Int) (λMA=>
      bif (!MA) then
       r9 false
      else
       aw N (getD AE (toNat og) Od).2.2.1 (0:Int) (99:Int) (λZr=>
        bif (!Zr) then
         r9 false
        else
         l4 N bg (getD AE (toNat og) Od) (λSv=>
          bif ((getD AE (toNat og) Od).2.2.2 != Sv) then
           r9 false
          else
           (fO N AE cE po kL r9) (getD AE (toNat og) Od).2.2.2 (wrap .i64 (og+(1:Int))))))
   else none
  else
   kL
def k8 (N:Nat) (a0:(List QL)) (kf:Bool->Option aa):Option aa:=
 bif (decide ((length a0:Int)>(200:Int))) then
  kf false
 else
  fO N a0 (length a0:Int) N (kf true) kf (0:Int) (0:Int)
def uw (N:Nat) (a0:(List QL)) (a1:Int) (a2:Int) (kf:(List QL)->Bool->Option aa):Option aa:=
 CQ N a0 (λZb=>
  l4 N Zb ((wrap .i64 ((length a0:Int)+(1:Int))),(a1,(a2,(0:Int)))) (λMq=>
   S50 N a0 (λZs=>
    bif (decide ((length Zs+length [((wrap .i64 ((length a0:Int)+(1:Int))),(a1,(a2,Mq)))])*4<=4398046511104)) then
     k8 N (Zs++[((wrap .i64 ((length a0:Int)+(1:Int))),(a1,(a2,Mq)))]) (λarw=>
      bif (!arw) then
       S50 N a0 (λah'=>
        kf ah' false)
      else
       kf (Zs++[((wrap .i64 ((length a0:Int)+(1:Int))),(a1,(a2,Mq)))]) true)
    else none)))
def km (cO:Int) (q8:(List Int)) (iX:Int):Nat->(Int->Option aa)->Int->Int->Option aa
 |0,_,_,_=>none
 |BX+1,fh,fZ,pq=>
  bif (decide (pq<iX)) then
   bif (aD pq (length q8)) then
    bif ((getD q8 (toNat pq) (0:Int))==cO) then
     (km cO q8 iX BX fh) (wrap .i64 (fZ+(1:Int))) (wrap .i64 (pq+(1:Int)))
    else
     (km cO q8 iX BX fh) fZ (wrap .i64 (pq+(1:Int)))
   else none
  else
   fh fZ
def kM (N:Nat) (a0:(List Int)) (a1:Int) (kf:Int->Option aa):Option aa:=
 km a1 a0 (length a0:Int) N kf (0:Int) (0:Int)
def cJ (N:Nat) (JW:(List QT)) (JX:QT) (WX:(List QT)) (WY:Int) (WZ:Int) (q9:(List Int)) (aia:Int):Nat->(Option aa)->(Bool->Option aa)->Int->Option aa
 |0,_,_,_=>none
 |akZ+1,Dz,rA,OM=>
  bif (decide (OM<aia)) then
   bif (aD OM (length q9)) then
    bL N JW (getD q9 (toNat OM) (0:Int)) (λKQ=>
     bif (decide (KQ<(0:Int))) then
      rA false
     else
      bif ((getD q9 (toNat OM) (0:Int))==JX.1) then
       rA false
      else
       bif (aD KQ (length JW)) then
        kM N JX.2.2.2.2.2 (getD q9 (toNat OM) (0:Int)) (λabX=>
         kM N (getD JW (toNat KQ) an).2.2.2.2.2 JX.1 (λW2=>
          bif (abX != W2) then
           rA false
          else
           (cJ N JW JX WX WY WZ q9 aia akZ Dz rA) (wrap .i64 (OM+(1:Int)))))
       else none)
   else none
  else
   Dz
def qz (N:Nat) (b8:Bool->Option aa) (aox:Int->Option aa) (ae:(List QT)) (dM:(List QT)) (Hr:Int) (b9:Int):Option aa:=
 cJ N ae (getD dM (toNat b9) an) dM Hr b9 (getD dM (toNat b9) an).2.2.2.2.2 (length (getD dM (toNat b9) an).2.2.2.2.2:Int) N (aox (wrap .i64 (b9+(1:Int)))) b8 (0:Int)
def ga (N:Nat) (ae:(List QT)) (dM:(List QT)) (Hr:Int):Nat->(Option aa)->(Bool->Option aa)->Int->Option aa
 |0,_,_,_=>none
 |po+1,Fb,b8,b9=>
  bif (decide (b9<Hr)) then
   bif (aD b9 (length dM)) then
    aw N (getD dM (toNat b9) an).1 (1:Int) (99:Int) (λMA=>
     bif (!MA) then
      b8 false
     else
      bif (decide (b9>(0:Int))) then
       bif (aD (wrap .i64 (b9 - (1:Int))) (length ae)) then
        bif (decide ((getD dM (toNat b9) an).1<=(getD ae (toNat (wrap .i64 (b9 - (1:Int)))) an).1)) then
         b8 false
        else
         aw N (getD dM (toNat b9) an).2.1 (1:Int) (99:Int) (λaib=>
          bif (!aib) then
           b8 false
          else
           bif (decide ((length (getD dM (toNat b9) an).2.2.2.2.2:Int)>(20:Int))) then
            b8 false
           else
            aw N (getD dM (toNat b9) an).2.2.1 (0:Int) (length (getD dM (toNat b9) an).2.2.2.2.2:Int) (λVC=>
             bif (!VC) then
              b8 false
             else
              aw N (getD dM (toNat b9) an).2.2.2.2.1 (0:Int) (length (getD dM (toNat b9) an).2.2.2.2.2:Int) (λaic=>
               bif (!aic) then
                b8 false
               else
                aw N (getD dM (toNat b9) an).2.2.2.1 (0:Int) (100000:Int) (λabY=>
                 bif (!abY) then
                  b8 false
                 else
                  qz N b8 (ga N ae dM Hr po Fb b8) ae dM Hr b9))))
       else none
      else
       aw N (getD dM (toNat b9) an).2.1 (1:Int) (99:Int) (λabZ=>
        bif (!abZ) then
         b8 false
        else
         bif (decide ((length (getD dM (toNat b9) an).2.2.2.2.2:Int)>(20:Int))) then
          b8 false
         else
          aw N (getD dM (toNat b9) an).2.2.1 (0:Int) (length (getD dM (toNat b9) an).2.2.2.2.2:Int) (λab0=>
           bif (!ab0) then
            b8 false
           else
            aw N (getD dM (toNat b9) an).2.2.2.2.1 (0:Int) (length (getD dM (toNat b9) an).2.2.2.2.2:Int) (λE9=>
             bif (!E9) then
              b8 false
             else
              aw N (getD dM (toNat b9) an).2.2.2.1 (0:Int) (100000:Int) (λab1=>
               bif (!ab1) then
                b8 false
               else
                qz N b8 (ga N ae dM Hr po Fb b8) ae dM Hr b9)))))
   else none
  else
   Fb
def cK (N:Nat) (a0:(List QT)) (kf:Bool->Option aa):Option aa:=
 bif (decide ((length a0:Int)>(10:Int))) then
  kf false
 else
  ga N a0 a0 (length a0:Int) N (kf true) kf (0:Int)
def ca (N:Nat) (Zt:(List QJ)) (mL:QJ) (Sw:(List QJ)) (Sx:Int) (Sy:Int) (ra:(List Int)) (ab2:Int):Nat->(Option aa)->(Bool->Option aa)->Int->Option aa
 |0,_,_,_=>none
 |ak0+1,Fe,z6,Ff=>
  bif (decide (Ff<ab2)) then
   bif (aD Ff (length ra)) then
    aw N (getD ra (toNat Ff) (0:Int)) (1:Int) (99:Int) (λab3=>
     bif (!ab3) then
      z6 false
     else
      bif (decide (Ff>(0:Int))) then
       bif (aD (wrap .i64 (Ff - (1:Int))) (length mL.2.2)) then
        bif (decide ((getD ra (toNat Ff) (0:Int))<=(getD mL.2.2 (toNat (wrap .i64 (Ff - (1:Int)))) (0:Int)))) then
         z6 false
        else
         (ca N Zt mL Sw Sx Sy ra ab2 ak0 Fe z6) (wrap .i64 (Ff+(1:Int)))
       else none
      else
       (ca N Zt mL Sw Sx Sy ra ab2 ak0 Fe z6) (wrap .i64 (Ff+(1:Int))))
   else none
  else
   Fe
def pw (N:Nat) (jZ:Bool->Option aa) (aoy:Int->Option aa) (ae:(List QJ)) (lC:(List QJ)) (mS:Int) (cL:Int):Option aa:=
 ca N ae (getD lC (toNat cL) dY) lC mS cL (getD lC (toNat cL) dY).2.2 (length (getD lC (toNat cL) dY).2.2:Int) N (aoy (wrap .i64 (cL+(1:Int)))) jZ (0:Int)
def eT (N:Nat) (ae:(List QJ)) (lC:(List QJ)) (mS:Int):Nat->(Option aa)->(Bool->Option aa)->Int->Option aa
 |0,_,_,_=>none
 |po+1,Fg,jZ,cL=>
  bif (decide (cL<mS)) then
   bif (aD cL (length lC)) then
    aw N (getD lC (toNat cL) dY).1 (1:Int) (99:Int) (λaid=>
     bif (!aid) then
      jZ false
     else
      bif (decide (cL>(0:Int))) then
       bif (aD (wrap .i64 (cL - (1:Int))) (length ae)) then
        bif (decide ((getD lC (toNat cL) dY).1<=(getD ae (toNat (wrap .i64 (cL - (1:Int)))) dY).1)) then
         jZ false
        else
         aw N (getD lC (toNat cL) dY).2.1 (1:Int) (99:Int) (λaie=>
          bif (!aie) then
           jZ false
          else
           pw N jZ (eT N ae lC mS po Fg jZ) ae lC mS cL)
       else none
      else
       aw N (getD lC (toNat cL) dY).2.1 (1:Int) (99:Int) (λHj=>
        bif (!Hj) then
         jZ false
        else
         pw N jZ (eT N ae lC mS po Fg jZ) ae lC mS cL))
   else none
  else
   Fg
def mT (N:Nat) (a0:(List QJ)) (kf:Bool->Option aa):Option aa:=
 bif (decide ((length a0:Int)>(10:Int))) then
  kf false
 else
  eT N a0 a0 (length a0:Int) N (kf true) kf (0:Int)
def eL (ae:(List Int)) (aj:Int) (Dy:Int):Nat->(Option aa)->(Int->Option aa)->Int->Option aa
 |0,_,_,_=>none
 |po+1,ON,OO,jP=>
  bif (decide (jP<Dy)) then
   bif (aD jP (length ae)) then
    bif (aj==(getD ae (toNat jP) (0:Int))) then
     OO jP
    else
     (eL ae aj Dy po ON OO) (wrap .i64 (jP+(1:Int)))
   else none
  else
   ON
def iG (N:Nat) (a0:(List Int)) (a1:Int) (kf:Int->Option aa):Option aa:=
 eL a0 a1 (length a0:Int) N (kf (-1:Int)) kf (0:Int)
def bp (N:Nat) (a0:(List Int)) (a1:Int) (kf:Bool->Option aa):Option aa:=
 iG N a0 a1 (λx8=>
  kf (decide (x8≥(0:Int))))
def z7 (N:Nat) (a0:(List QT)) (a1:Int) (a2:Int) (kf:Bool->Option aa):Option aa:=
 bL N a0 a1 (λiw=>
  bif (decide (iw≥(0:Int))) then
   bif (aD iw (length a0)) then
    bp N (getD a0 (toNat iw) an).2.2.2.2.2 a2 kf
   else none
  else
   kf false)
def nM (N:Nat) (a0:(List QT)) (a1:Int) (a2:Int) (kf:Bool->Option aa):Option aa:=
 bL N a0 a1 (λcI=>
  bL N a0 a2 (λfV=>
   cK N a0 (λFZ=>
    bif FZ then
     bif (decide (cI≥(0:Int))) then
      bif (decide (fV≥(0:Int))) then
       bif (cI != fV) then
        bif (aD cI (length a0)) then
         bif (aD fV (length a0)) then
          bif ((getD a0 (toNat cI) an).2.1 != (getD a0 (toNat fV) an).2.1) then
           z7 N a0 a1 a2 (λahP=>
            kf (!ahP))
          else
           kf false
         else none
        else none
       else
        kf false
      else
       kf false
     else
      kf false
    else
     kf false)))
def iH (N:Nat) (VH:(List Int)) (ux:(List QT)) (aif:Int):Nat->(Option aa)->(Bool->Option aa)->Int->Option aa
 |0,_,_,_=>none
 |atn+1,DA,DB,W3=>
  bif (decide (W3<aif)) then
   bif (aD W3 (length ux)) then
    kM N VH (getD ux (toNat W3) an).1 (λab4=>
     bif (ab4 != (1:Int)) then
      DB false
     else
      (iH N VH ux aif atn DA DB) (wrap .i64 (W3+(1:Int))))
   else none
  else
   DA
def jE (N:Nat) (ae:(List QT)) (mS:(List bE)) (cL:Int):Nat->((List Int)->Option aa)->(Bool->Option aa)->(List Int)->Int->Option aa
 |0,_,_,_,_=>none
 |BX+1,fh,nF,fZ,wc=>
  bif (decide (wc<cL)) then
   bif (aD wc (length mS)) then
    nM N ae (getD mS (toNat wc) ff).1 (getD mS (toNat wc) ff).2 (λx9=>
     bif (!x9) then
      nF false
     else
      bif (decide ((length fZ+length [(getD mS (toNat wc) ff).1,(getD mS (toNat wc) ff).2])*1<=4398046511104)) then
       (jE N ae mS cL BX fh nF) (fZ++[(getD mS (toNat wc) ff).1,(getD mS (toNat wc) ff).2]) (wrap .i64 (wc+(1:Int)))
      else none)
   else none
  else
   fh fZ
def z8 (N:Nat) (a0:(List QT)) (a1:(List bE)) (kf:Bool->Option aa):Option aa:=
 jE N a0 a1 (length a1:Int) N (λaih=>
  iH N aih a0 (length a0:Int) N (kf true) kf (0:Int)) kf ([]:(List Int)) (0:Int)
def qA (N:Nat) (a0:QJ) (a1:Int) (kf:Bool->Option aa):Option aa:=
 kf (a0.1==a1)
def aO (N:Nat) (ae:(List QJ)) (aj:Int) (Dy:Int):Nat->(Option aa)->(Int->Option aa)->Int->Option aa
 |0,_,_,_=>none
 |po+1,iY,iZ,jP=>
  bif (decide (jP<Dy)) then
   bif (aD jP (length ae)) then
    qA N (getD ae (toNat jP) dY) aj (λja=>
     bif ja then
      iZ jP
     else
      (aO N ae aj Dy po iY iZ) (wrap .i64 (jP+(1:Int))))
   else none
  else
   iY
def bu (N:Nat) (a0:(List QJ)) (WW:Int) (kf:Int->Option aa):Option aa:=
 aO N a0 WW (length a0:Int) N (kf (-1:Int)) kf (0:Int)
def iI (N:Nat) (ae:(List QT)) (fY:QJ) (AF:(List Int)) (amZ:Int):Nat->(Option aa)->(Bool->Option aa)->Int->Option aa
 |0,_,_,_=>none
 |BX+1,CR,xI,rB=>
  bif (decide (rB<amZ)) then
   bif (aD rB (length AF)) then
    bL N ae (getD AF (toNat rB) (0:Int)) (λx9=>
     bif (decide (x9<(0:Int))) then
      xI false
     else
      bif (aD x9 (length ae)) then
       bif ((getD ae (toNat x9) an).2.1==fY.2.1) then
        xI false
       else
        bp N fY.2.2 (getD AF (toNat rB) (0:Int)) (λHj=>
         bif Hj then
          xI false
         else
          (iI N ae fY AF amZ BX CR xI) (wrap .i64 (rB+(1:Int))))
      else none)
   else none
  else
   CR
def kn (N:Nat) (a0:(List QT)) (a1:QJ) (a2:bE) (kf:Bool->Option aa):Option aa:=
 iI N a0 a1 [a2.1,a2.2] (length [a2.1,a2.2]:Int) N (kf true) kf (0:Int)
def gG (N:Nat) (KM:(List QT)) (sC:(List QJ)) (xd:(List bE)) (tJ:(List Int)) (AG:(List Int)) (am0:Int):Nat->(Option aa)->(Bool->Option aa)->Int->Option aa
 |0,_,_,_=>none
 |n_9+1,IA,xJ,JY=>
  bif (decide (JY<am0)) then
   bif (aD JY (length AG)) then
    bu N sC (getD AG (toNat JY) (0:Int)) (λKR=>
     bif (decide (KR<(0:Int))) then
      xJ false
     else
      bif (decide ((0:Int)<=(0:Int))&&decide ((0:Int)<=JY)&&decide (JY<=(length tJ:Int))) then
       bp N (List.drop (toNat (0:Int)) (List.take (toNat JY) tJ)) (getD AG (toNat JY) (0:Int)) (λOP=>
        bif OP then
         xJ false
        else
         bif (aD KR (length sC)) then
          bif (aD JY (length xd)) then
           kn N KM (getD sC (toNat KR) dY) (getD xd (toNat JY) ff) (λab5=>
            bif (!ab5) then
             xJ false
            else
             (gG N KM sC xd tJ AG am0 n_9 IA xJ) (wrap .i64 (JY+(1:Int))))
          else none
         else none)
      else none)
   else none
  else
   IA
def uy (N:Nat) (a0:(List QT)) (a1:(List QJ)) (a2:(List bE)) (a3:(List Int)) (kf:Bool->Option aa):Option aa:=
 mT N a1 (λic=>
  bif (!ic) then
   kf false
  else
   bif ((length a3:Int) != (length a2:Int)) then
    kf false
   else
    gG N a0 a1 a2 a3 a3 (length a3:Int) N (kf true) kf (0:Int))
def ko (N:Nat) (a0:QB) (kf:Bool->Option aa):Option aa:=
 aw N a0.1 (1:Int) (99:Int) (λGA=>
  bif GA then
   aw N a0.2.1 (0:Int) (100:Int) (λabO=>
    bif abO then
     aw N a0.2.2 (0:Int) (100:Int) (λZh=>
      bif Zh then
       kf (a0.2.1 != a0.2.2)
      else
       kf false)
    else
     kf false)
  else
   kf false)
def gH (cE:(List QT)) (og:Int):Nat->(Int->Option aa)->Int->Int->Option aa
 |0,_,_,_=>none
 |BX+1,Fh,ao,ij=>
  bif (decide (ij<og)) then
   bif (aD ij (length cE)) then
    (gH cE og BX Fh) (wrap .i64 (ao+(getD cE (toNat ij) an).2.2.1)) (wrap .i64 (ij+(1:Int)))
   else none
  else
   Fh ao
def uz (N:Nat) (a0:(List QT)) (kf:Int->Option aa):Option aa:=
 cK N a0 (λx8=>
  bif (!x8) then
   kf (0:Int)
  else
   gH a0 (length a0:Int) N kf (0:Int) (0:Int))
def jc (N:Nat) (o7:QC) (uA:(List QB)) (aii:Int):Nat->(Option aa)->(Bool->Option aa)->Int->Option aa
 |0,_,_,_=>none
 |WT+1,Fi,z',AH=>
  bif (decide (AH<aii)) then
   bif (aD AH (length uA)) then
    bif (!((decide (((getD uA (toNat AH) oO).1:Int)=(0:Int)))&&((decide (((getD uA (toNat AH) oO).2.1:Int)=(0:Int)))&&(decide (((getD uA (toNat AH) oO).2.2:Int)=(0:Int)))))) then
     ko N (getD uA (toNat AH) oO) (λab6=>
      bif (!ab6) then
       z' false
      else
       bif (aD AH (length o7.2.2.2.1)) then
        bif ((getD uA (toNat AH) oO).1 != (getD o7.2.2.2.1 (toNat AH) (0:Int))) then
         z' false
        else
         (jc N o7 uA aii WT Fi z') (wrap .i64 (AH+(1:Int)))
       else none)
    else
     (jc N o7 uA aii WT Fi z') (wrap .i64 (AH+(1:Int)))
   else none
  else
   Fi
def uB (N:Nat) (a0:QC) (kf:Bool->Option aa):Option aa:=
 jc N a0 a0.2.2.2.2.1 (length a0.2.2.2.2.1:Int) N (
  aw N a0.2.2.2.2.2.2 (0:Int) (1000:Int) (λaoz=>
   bif aoz then
    uz N a0.1 (λKO=>
     kf (KO==a0.2.2.2.2.2.2))
   else
    kf false)) kf (0:Int)
def lD (N:Nat) (a0:QC) (kf:Bool->Option aa):Option aa:=
 cK N a0.1 (λx8=>
  bif (!x8) then
   kf false
  else
   mT N a0.2.1 (λSl=>
    bif (!Sl) then
     kf false
    else
     k8 N a0.2.2.2.2.2.1 (λSm=>
      bif (!Sm) then
       kf false
      else
       bif ((length a0.2.2.2.1:Int) != (length a0.2.2.1:Int)) then
        kf false
       else
        bif ((length a0.2.2.2.2.1:Int) != (length a0.2.2.1:Int)) then
         kf false
        else
         dL N a0 (λZq=>
          bif Zq then
           z8 N a0.1 a0.2.2.1 (λarx=>
            bif (!arx) then
             kf false
            else
             uy N a0.1 a0.2.1 a0.2.2.1 a0.2.2.2.1 (λary=>
              bif (!ary) then
               kf false
              else
               uB N a0 kf))
          else
           uB N a0 kf))))
def j0 (N:Nat) (a0:QC) (a1:QC) (a2:Int) (a3:Int) (kf:QC->Bool->Option aa):Option aa:=
 uw N a1.2.2.2.2.2.1 a2 a3 (λadV Dp=>
  bif (!Dp) then
   aF N a0 (λaij=>
    kf aij false)
  else
   lD N a0 (λaA=>
    bif (!aA) then
     aF N a0 (λaij=>
      kf aij false)
    else
     lD N (a1.1,(a1.2.1,(a1.2.2.1,(a1.2.2.2.1,(a1.2.2.2.2.1,(adV,a1.2.2.2.2.2.2)))))) (λarz=>
      bif (!arz) then
       aF N a0 (λZc=>
        kf Zc false)
      else
       kf (a1.1,(a1.2.1,(a1.2.2.1,(a1.2.2.2.1,(a1.2.2.2.2.1,(adV,a1.2.2.2.2.2.2)))))) true)))
def gb (afy:Int) (ak1:Int) (afz:QC) (Zu:QC) (MB:QC):Nat->(Int->Option aa)->Int->Option aa
 |0,_,_=>none
 |Zl+1,uC,afA=>
  bif (decide (afA<(length MB.1:Int))) then
   bif (aD afA (length MB.1)) then
    bif (decide ((getD MB.1 (toNat afA) an).1<afy)) then
     (gb afy ak1 afz Zu MB Zl uC) (wrap .i64 (afA+(1:Int)))
    else
     uC afA
   else none
  else
   uC afA
def gw (N:Nat) (a0:QC) (a1:Int) (a2:Int) (kf:QC->Bool->Option aa):Option aa:=
 aF N a0 (λcI=>
  bL N a0.1 a1 (λZv=>
   bif (decide (Zv≥(0:Int))) then
    kf cI false
   else
    dL N a0 (λZw=>
     bif Zw then
      kf cI false
     else
      gb a1 a2 a0 (([]:(List QT)),(([]:(List QJ)),(([]:(List bE)),(([]:(List Int)),(([]:(List QB)),(([]:(List QL)),(0:Int))))))) cI N (λarA=>
       akY N cI.1 arA [(a1,(a2,((0:Int),((0:Int),((0:Int),([]:(List Int)))))))] (λaoA=>
        j0 N a0 (aoA,cI.2) (1:Int) a1 kf)) (0:Int))))
def uD (N:Nat) (a0:QJ) (a1:Int) (kf:Bool->Option aa):Option aa:=
 kf (a0.1==a1)
def aT (N:Nat) (ae:(List QJ)) (aj:Int) (Dy:Int):Nat->(Option aa)->(Int->Option aa)->Int->Option aa
 |0,_,_,_=>none
 |po+1,iY,iZ,jP=>
  bif (decide (jP<Dy)) then
   bif (aD jP (length ae)) then
    uD N (getD ae (toNat jP) dY) aj (λja=>
     bif ja then
      iZ jP
     else
      (aT N ae aj Dy po iY iZ) (wrap .i64 (jP+(1:Int))))
   else none
  else
   iY
def ee (N:Nat) (a0:(List QJ)) (WW:Int) (kf:Int->Option aa):Option aa:=
 aT N a0 WW (length a0:Int) N (kf (-1:Int)) kf (0:Int)
def j8 (N:Nat) (a0:(List QJ)) (a1:Int) (kf:Int->Option aa):Option aa:=
 ee N a0 a1 kf
def ak2 (N:Nat) (a0:(List QJ)) (a1:Int) (a2:(List QJ)) (kf:(List QJ)->Option aa):Option aa:=
 bif (decide ((0:Int)<=a1)&&(decide (a1<=(length a0:Int))&&(Nat.blt 0 (length a2)&&Nat.ble ((length a0+length a2)*Ty.size tI) 4398046511104))) then
  kf (List.take (toNat a1) a0++a2++List.drop (toNat a1) a0)
 else none
def eU (sC:Int) (xd:Int) (tJ:QC) (ak3:QC) (MC:QC):Nat->(Int->Option aa)->Int->Option aa
 |0,_,_=>none
 |n_9+1,gI,afB=>
  bif (decide (afB<(length MC.2.1:Int))) then
   bif (aD afB (length MC.2.1)) then
    bif (decide ((getD MC.2.1 (toNat afB) dY).1<sC)) then
     (eU sC xd tJ ak3 MC n_9 gI) (wrap .i64 (afB+(1:Int)))
    else
     gI afB
   else none
  else
   gI afB
def jd (N:Nat) (a0:QC) (a1:Int) (a2:Int) (kf:QC->Bool->Option aa):Option aa:=
 aF N a0 (λcI=>
  j8 N a0.2.1 a1 (λZv=>
   bif (decide (Zv≥(0:Int))) then
    kf cI false
   else
    eU a1 a2 a0 (([]:(List QT)),(([]:(List QJ)),(([]:(List bE)),(([]:(List Int)),(([]:(List QB)),(([]:(List QL)),(0:Int))))))) cI N (λarB=>
     ak2 N cI.2.1 arB [(a1,(a2,([]:(List Int))))] (λaoB=>
      j0 N a0 (cI.1,(aoB,cI.2.2)) (2:Int) a1 kf)) (0:Int)))
def ak4 (N:Nat) (a0:(List QT)) (kf:(List QT)->Option aa):Option aa:=
 bif (List.isEmpty a0) then
  both (kf ([]:(List QT))) (
   bif (decide ((length ([]:(List QT))+length a0)*6<=4398046511104)) then
    kf (([]:(List QT))++a0)
   else none)
 else
  bif (decide ((length ([]:(List QT))+length a0)*6<=4398046511104)) then
   kf (([]:(List QT))++a0)
  else none
def sG (kf:Int->Option aa) (arC:Int) (ato:Int):Option aa:=
 bif (aD (wrap .u8 arC) (ByteArray.size aL)) then
  kf (wrap .i64 (ato+(wrap .i64 (bt aL (wrap .u8 arC)))))
 else none
def sH (kf:Int->Option aa) (aoC:Int) (arD:Int):Option aa:=
 bif (decide (aoC≥(256:Int))) then
  bif (decide (0<=(8:Int))) then
   sG kf (Int.fdiv aoC (2^(min (toNat (8:Int)) (IntKind.bits .u64)))) (wrap .i64 (arD+(8:Int)))
  else none
 else
  sG kf aoC arD
def sI (kf:Int->Option aa) (aoD:Int) (arE:Int):Option aa:=
 bif (decide (aoD≥(65536:Int))) then
  bif (decide (0<=(16:Int))) then
   sH kf (Int.fdiv aoD (2^(min (toNat (16:Int)) (IntKind.bits .u64)))) (wrap .i64 (arE+(16:Int)))
  else none
 else
  sH kf aoD arE
def yJ (N:Nat) (a0:Int) (kf:Int->Option aa):Option aa:=
 bif (decide (a0≥(4294967296:Int))) then
  bif (decide (0<=(32:Int))) then
   sI kf (Int.fdiv a0 (2^(min (toNat (32:Int)) (IntKind.bits .u64)))) (32:Int)
  else none
 else
  sI kf a0 (0:Int)
def rC (N:Nat) (a0:Int) (kf:Int->Option aa):Option aa:=
 yJ N a0 kf
def cmp_isNaN_int (N:Nat) (a0:Int) (kf:Bool->Option aa):Option aa:=
 kf (a0 != a0)
def jF (N:Nat) (a0:Int) (a1:Int) (kf:Int->Option aa):Option aa:=
 cmp_isNaN_int N a0 (λUv=>
  cmp_isNaN_int N a1 (λVI=>
   bif Uv then
    bif VI then
     kf (0:Int)
    else
     kf (-1:Int)
   else
    bif VI then
     kf (1:Int)
    else
     bif (decide (a0<a1)) then
      kf (-1:Int)
     else
      bif (decide (a0>a1)) then
       kf (1:Int)
      else
       kf (0:Int)))
def l5 (bg:Int) (tL:(List Int)) (Dy:Int):Nat->(Option aa)->(Int->Option aa)->Int->Option aa
 |0,_,_,_=>none
 |po+1,iU,OQ,jP=>
  bif (decide (jP<Dy)) then
   bif (aD jP (length tL)) then
    bif ((getD tL (toNat jP) (0:Int)) != bg) then
     OQ (getD tL (toNat jP) (0:Int))
    else
     (l5 bg tL Dy po iU OQ) (wrap .i64 (jP+(1:Int)))
   else none
  else
   iU
def Fj (N:Nat) (a0:(List Int)) (kf:Int->Option aa):Option aa:=
 l5 (0:Int) a0 (length a0:Int) N (kf (0:Int)) kf (0:Int)
def se (N:Nat) (a0:QT) (a1:QT) (kf:Int->Option aa):Option aa:=
 jF N a1.2.2.1 a0.2.2.1 (λp5=>
  jF N a1.2.2.2.1 a0.2.2.2.1 (λfV=>
   jF N a0.1 a1.1 (λZw=>
    Fj N [p5,fV,Zw] kf)))
def aJ (N:Nat) (o7:Int) (Zx:Int) (aoE:Int):Nat->((List QT)->Option aa)->(List QT)->Int->Option aa
 |0,_,_,_=>none
 |WT+1,Fl,iD,lE=>
  bif (decide (lE>o7)) then
   bif (aD lE (length iD)) then
    bif (aD (wrap .i64 (lE - (1:Int))) (length iD)) then
     se N (getD iD (toNat lE) an) (getD iD (toNat (wrap .i64 (lE - (1:Int)))) an) (λab7=>
      bif (decide (ab7<(0:Int))) then
       bif (aD (wrap .i64 (lE - (1:Int))) (length iD)) then
        bif (aD lE (length iD)) then
         bif (aD lE (length iD)) then
          share (List.set iD (toNat lE) (getD iD (toNat (wrap .i64 (lE - (1:Int)))) an)) (λZy=>
           bif (aD (wrap .i64 (lE - (1:Int))) (length Zy)) then
            share (List.set Zy (toNat (wrap .i64 (lE - (1:Int)))) (getD iD (toNat lE) an)) (λaik=>
             (aJ N o7 Zx aoE WT Fl) aik (wrap .i64 (lE - (1:Int))))
           else none)
         else none
        else none
       else none
      else
       Fl iD)
    else none
   else none
  else
   Fl iD
def aC (N:Nat) (aj:Int) (hJ:Int):Nat->((List QT)->Option aa)->(List QT)->Int->Option aa
 |0,_,_,_=>none
 |po+1,MD,ae,jP=>
  bif (decide (jP<hJ)) then
   aJ N aj hJ jP N (λail=>
    (aC N aj hJ po MD) ail (wrap .i64 (jP+(1:Int)))) ae jP
  else
   MD ae
def bZ (N:Nat) (a0:(List QT)) (a1:Int) (a2:Int) (kf:(List QT)->Option aa):Option aa:=
 aC N a1 a2 N kf a0 (wrap .i64 (a1+(1:Int)))
def cp (N:Nat) (ae:(List QT)) (aj:Int) (hJ:Int) (eJ:Int) (pq:Bool) (arF:Bool):Nat->((List QT)->Option aa)->Option aa
 |0,_=>none
 |Mt+1,CR=>
  bif (decide ((wrap .i64 (hJ - aj))<=(12:Int))) then
   bZ N ae aj hJ CR
  else
   bif (eJ==(0:Int)) then
    none
   else
    bif (!pq) then
     none
    else none
def bI (N:Nat) (a0:(List QT)) (a1:Int) (a2:Int) (a3:Int) (kf:(List QT)->Option aa):Option aa:=
 cp N a0 a1 a2 a3 true true N kf
def cz (N:Nat) (a0:(List QT)) (kf:(List QT)->Option aa):Option aa:=
 rC N (wrap .u64 (length a0:Int)) (λcI=>
  bI N a0 (0:Int) (length a0:Int) cI kf)
def iJ (rB:(List QT)) (am1:Int):Nat->((List Int)->Option aa)->(List Int)->Int->Option aa
 |0,_,_,_=>none
 |n_8+1,OR,eJ,Zz=>
  bif (decide (Zz<am1)) then
   bif (aD Zz (length rB)) then
    bif (decide ((length eJ+length [(getD rB (toNat Zz) an).1])*1<=4398046511104)) then
     (iJ rB am1 n_8 OR) (eJ++[(getD rB (toNat Zz) an).1]) (wrap .i64 (Zz+(1:Int)))
    else none
   else none
  else
   OR eJ
def iR (N:Nat) (a0:(List QT)) (kf:(List Int)->Option aa):Option aa:=
 cK N a0 (λp5=>
  bif (!p5) then
   kf ([]:(List Int))
  else
   ak4 N a0 (λur=>
    cz N ur (λakW=>
     iJ akW (length akW:Int) N kf ([]:(List Int)) (0:Int))))
def Aa (N:Nat) (a0:(List QT)) (a1:Int) (a2:Int) (kf:bE->Option aa):Option aa:=
 bL N a0 a1 (λZA=>
  bL N a0 a2 (λSz=>
   cK N a0 (λZw=>
    bif (!Zw) then
     kf ((0:Int),(0:Int))
    else
     bif (decide (ZA<(0:Int))) then
      kf ((0:Int),(0:Int))
     else
      bif (decide (Sz<(0:Int))) then
       kf ((0:Int),(0:Int))
      else
       bif (ZA==Sz) then
        kf ((0:Int),(0:Int))
       else
        bif (aD ZA (length a0)) then
         bif (aD Sz (length a0)) then
          iR N a0 (λam2=>
           bif (decide ((getD a0 (toNat ZA) an).2.2.2.2.1<(getD a0 (toNat Sz) an).2.2.2.2.1)) then
            kf (a1,a2)
           else
            bif ((getD a0 (toNat ZA) an).2.2.2.2.1==(getD a0 (toNat Sz) an).2.2.2.2.1) then
             iG N am2 a1 (λarG=>
              iG N am2 a2 (λarH=>
               bif (decide (arG<arH)) then
                kf (a1,a2)
               else
                kf (a2,a1)))
            else
             kf (a2,a1))
         else none
        else none)))
def Fm (N:Nat) (self:(List QT)->(List Int)->((List bE)->Bool->Option aa)->Option aa) (ae:(List QT)) (aj:(List Int)):Nat->(Option aa)->((List bE)->Bool->Option aa)->Int->Option aa
 |0,_,_,_=>none
 |Iu+1,Fo,xK,tK=>
  bif (decide (tK<(length aj:Int))) then
   bif (aD (0:Int) (length aj)) then
    bif (aD tK (length aj)) then
     nM N ae (getD aj (toNat (0:Int)) (0:Int)) (getD aj (toNat tK) (0:Int)) (λah7=>
      bif (!ah7) then
       (Fm N self ae aj Iu Fo xK) (wrap .i64 (tK+(1:Int)))
      else
       bif (decide ((0:Int)<=(1:Int))&&decide ((1:Int)<=tK)&&decide (tK<=(length aj:Int))) then
        bif (decide ((0:Int)<=(wrap .i64 (tK+(1:Int))))&&decide ((wrap .i64 (tK+(1:Int)))<=(length aj:Int))&&decide ((length aj:Int)<=(length aj:Int))) then
         lB N [(List.drop (toNat (1:Int)) (List.take (toNat tK) aj)),(List.drop (toNat (wrap .i64 (tK+(1:Int)))) (List.take (toNat (length aj:Int)) aj))] (λarI=>
          self ae arI (λam3 arJ=>
           bif arJ then
            bif (aD (0:Int) (length aj)) then
             bif (aD tK (length aj)) then
              Aa N ae (getD aj (toNat (0:Int)) (0:Int)) (getD aj (toNat tK) (0:Int)) (λam4=>
               bif (decide ((length [am4]+length am3)*2<=4398046511104)) then
                xK ([am4]++am3) true
               else none)
             else none
            else none
           else
            (Fm N self ae aj Iu Fo xK) (wrap .i64 (tK+(1:Int)))))
        else none
       else none)
    else none
   else none
  else
   Fo
def ab8 (self:(List QT)->(List Int)->((List bE)->Bool->Option aa)->Option aa) (N:Nat) (a0:(List QT)) (a1:(List Int)) (kf:(List bE)->Bool->Option aa):Option aa:=
 bif ((length a1:Int)==(0:Int)) then
  kf ([]:(List bE)) true
 else
  Fm N self a0 a1 N (kf ([]:(List bE)) false) kf (1:Int)
def ab9:Nat->(List QT)->(List Int)->((List bE)->Bool->Option aa)->Option aa
 |0,_,_,_=>none
 |N+1,a0,a1,kf=>ab8 (ab9 N) N a0 a1 kf
def uE (N:Nat) (a0:(List QT)) (kf:(List bE)->Bool->Option aa):Option aa:=
 cK N a0 (λGA=>
  bif (!GA) then
   kf ([]:(List bE)) false
  else
   bif ((Int.tmod (length a0:Int) (2:Int))==(1:Int)) then
    kf ([]:(List bE)) false
   else
    iR N a0 (λDp=>
     ab9 N a0 Dp kf))
def B0 (N:Nat) (self:(List QT)->(List QJ)->(List bE)->(List Int)->((List Int)->Bool->Option aa)->Option aa) (ae:(List QT)) (aj:(List QJ)) (hJ:(List bE)) (eJ:(List Int)) (B2:(List QJ)) (ya:Int):Nat->(Option aa)->((List Int)->Bool->Option aa)->Int->Option aa
 |0,_,_,_=>none
 |n_8+1,QU,QV,AI=>
  bif (decide (AI<ya)) then
   bif (aD AI (length B2)) then
    bp N eJ (getD B2 (toNat AI) dY).1 (λarK=>
     bif arK then
      (B0 N self ae aj hJ eJ B2 ya n_8 QU QV) (wrap .i64 (AI+(1:Int)))
     else
      bif (aD (0:Int) (length hJ)) then
       kn N ae (getD B2 (toNat AI) dY) (getD hJ (toNat (0:Int)) ff) (λaoF=>
        bif (!aoF) then
         (B0 N self ae aj hJ eJ B2 ya n_8 QU QV) (wrap .i64 (AI+(1:Int)))
        else
         bif (decide ((0:Int)<=(1:Int))&&decide ((1:Int)<=(length hJ:Int))&&decide ((length hJ:Int)<=(length hJ:Int))) then
          S48 N eJ (λW4=>
           bif (decide ((length W4+length [(getD B2 (toNat AI) dY).1])*1<=4398046511104)) then
            self ae aj (List.drop (toNat (1:Int)) (List.take (toNat (length hJ:Int)) hJ)) (W4++[(getD B2 (toNat AI) dY).1]) (λaim aoG=>
             bif aoG then
              bif (decide ((length [(getD B2 (toNat AI) dY).1]+length aim)*1<=4398046511104)) then
               QV ([(getD B2 (toNat AI) dY).1]++aim) true
              else none
             else
              (B0 N self ae aj hJ eJ B2 ya n_8 QU QV) (wrap .i64 (AI+(1:Int))))
           else none)
         else none)
      else none)
   else none
  else
   QU
def ab' (self:(List QT)->(List QJ)->(List bE)->(List Int)->((List Int)->Bool->Option aa)->Option aa) (N:Nat) (a0:(List QT)) (a1:(List QJ)) (a2:(List bE)) (a3:(List Int)) (kf:(List Int)->Bool->Option aa):Option aa:=
 bif ((length a2:Int)==(0:Int)) then
  kf ([]:(List Int)) true
 else
  B0 N self a0 a1 a2 a3 a1 (length a1:Int) N (kf ([]:(List Int)) false) kf (0:Int)
def aca:Nat->(List QT)->(List QJ)->(List bE)->(List Int)->((List Int)->Bool->Option aa)->Option aa
 |0,_,_,_,_,_=>none
 |N+1,a0,a1,a2,a3,kf=>ab' (aca N) N a0 a1 a2 a3 kf
def sh (N:Nat) (a0:(List QT)) (a1:(List QJ)) (a2:(List bE)) (kf:(List Int)->Bool->Option aa):Option aa:=
 mT N a1 (λp5=>
  bif (!p5) then
   kf ([]:(List Int)) false
  else
   cK N a0 (λur=>
    bif (!ur) then
     kf ([]:(List Int)) false
    else
     bif (decide ((length a2:Int)>(length a1:Int))) then
      kf ([]:(List Int)) false
     else
      aca N a0 a1 a2 ([]:(List Int)) kf))
def oV (N:Nat) (a0:QC) (kf:QC->Bool->Option aa):Option aa:=
 aF N a0 (λiw=>
  lD N a0 (λSl=>
   bif (!Sl) then
    kf iw false
   else
    dL N a0 (λFZ=>
     bif FZ then
      kf iw false
     else
      bif ((length a0.1:Int)==(0:Int)) then
       kf iw false
      else
       uE N a0.1 (λSA ahT=>
        sh N a0.1 a0.2.1 SA (λarL arM=>
         bif (!ahT) then
          kf iw false
         else
          bif (!arM) then
           kf iw false
          else
           bif (decide ((length SA:Int)=(length SA:Int))&&decide ((0:Int)<=(length SA:Int))&&decide ((length SA:Int)<=1099511627776)) then
            j0 N a0 (iw.1,(iw.2.1,(SA,(arL,((List.replicate (toNat (length SA:Int)) ((0:Int),((0:Int),(0:Int)))),iw.2.2.2.2.2))))) (3:Int) (0:Int) kf
           else none)))))
def fu (N:Nat) (a0:QC) (a1:Int) (a2:Int) (a3:Int) (kf:QC->Bool->Option aa):Option aa:=
 aF N a0 (λic=>
  lD N a0 (λZv=>
   bif (!Zv) then
    kf ic false
   else
    bif (decide (a1<(0:Int))) then
     kf ic false
    else
     bif (decide (a1≥(length a0.2.2.1:Int))) then
      kf ic false
     else
      bif (aD a1 (length a0.2.2.2.2.1)) then
       bif (!((decide (((getD a0.2.2.2.2.1 (toNat a1) oO).1:Int)=(0:Int)))&&((decide (((getD a0.2.2.2.2.1 (toNat a1) oO).2.1:Int)=(0:Int)))&&(decide (((getD a0.2.2.2.2.1 (toNat a1) oO).2.2:Int)=(0:Int)))))) then
        kf ic false
       else
        bif (aD a1 (length a0.2.2.2.1)) then
         ko N ((getD a0.2.2.2.1 (toNat a1) (0:Int)),(a2,a3)) (λarN=>
          bif (!arN) then
           kf ic false
          else
           bif (aD a1 (length ic.2.2.2.2.1)) then
            j0 N a0 (ic.1,(ic.2.1,(ic.2.2.1,(ic.2.2.2.1,((List.set ic.2.2.2.2.1 (toNat a1) ((getD a0.2.2.2.1 (toNat a1) (0:Int)),(a2,a3))),ic.2.2.2.2.2))))) (4:Int) (getD a0.2.2.2.1 (toNat a1) (0:Int)) kf
           else none)
        else none
      else none))
def ik (qB:(List QB)) (sF:Int):Nat->((List Int)->Option aa)->(List Int)->Int->Option aa
 |0,_,_,_=>none
 |po+1,bF,bg,jq=>
  bif (decide (jq<sF)) then
   bif (aD jq (length qB)) then
    bif ((decide (((getD qB (toNat jq) oO).1:Int)=(0:Int)))&&((decide (((getD qB (toNat jq) oO).2.1:Int)=(0:Int)))&&(decide (((getD qB (toNat jq) oO).2.2:Int)=(0:Int))))) then
     bif (decide ((length bg+length [jq])*1<=4398046511104)) then
      (ik qB sF po bF) (bg++[jq]) (wrap .i64 (jq+(1:Int)))
     else none
    else
     (ik qB sF po bF) bg (wrap .i64 (jq+(1:Int)))
   else none
  else
   bF bg
def iS (N:Nat) (a0:QC) (kf:(List Int)->Option aa):Option aa:=
 ik a0.2.2.2.2.1 (length a0.2.2.2.2.1:Int) N kf ([]:(List Int)) (0:Int)
def dN (N:Nat) (ae:(List QB)) (qB:(List QB)) (sF:Int):Nat->(Option aa)->(Bool->Option aa)->Int->Option aa
 |0,_,_,_=>none
 |po+1,fi,kN,jq=>
  bif (decide (jq<sF)) then
   bif (aD jq (length qB)) then
    ko N (getD qB (toNat jq) oO) (λja=>
     bif (!ja) then
      kN false
     else
      bif (decide (jq>(0:Int))) then
       bif (aD (wrap .i64 (jq - (1:Int))) (length ae)) then
        bif (decide ((getD qB (toNat jq) oO).1<=(getD ae (toNat (wrap .i64 (jq - (1:Int)))) oO).1)) then
         kN false
        else
         (dN N ae qB sF po fi kN) (wrap .i64 (jq+(1:Int)))
       else none
      else
       (dN N ae qB sF po fi kN) (wrap .i64 (jq+(1:Int))))
   else none
  else
   fi
def k9 (N:Nat) (a0:(List QB)) (kf:Bool->Option aa):Option aa:=
 bif (decide ((length a0:Int)>(9:Int))) then
  kf false
 else
  dN N a0 a0 (length a0:Int) N (kf true) kf (0:Int)
def tk (N:Nat) (a0:QB) (kf:Int->Option aa):Option aa:=
 bif (decide (a0.2.1>a0.2.2)) then
  kf (1:Int)
 else
  kf (2:Int)
def gf (N:Nat) (aj:Int) (cL:(List QB)) (wc:Int):Nat->(Int->Option aa)->Int->Int->Option aa
 |0,_,_,_=>none
 |Mt+1,gI,aY,DC=>
  bif (decide (DC<wc)) then
   bif (aD DC (length cL)) then
    tk N (getD cL (toNat DC) oO) (λZB=>
     bif (ZB==aj) then
      (gf N aj cL wc Mt gI) (wrap .i64 (aY+(1:Int))) (wrap .i64 (DC+(1:Int)))
     else
      (gf N aj cL wc Mt gI) aY (wrap .i64 (DC+(1:Int))))
   else none
  else
   gI aY
def rD (N:Nat) (a0:(List QB)) (a1:Int) (kf:Int->Option aa):Option aa:=
 k9 N a0 (λp5=>
  bif (!p5) then
   kf (0:Int)
  else
   gf N a1 a0 (length a0:Int) N kf (0:Int) (0:Int))
def gJ (aj:Int) (cL:(List QB)) (wc:Int):Nat->(Int->Option aa)->Int->Int->Option aa
 |0,_,_,_=>none
 |Mt+1,kL,aY,DC=>
  bif (decide (DC<wc)) then
   bif (aD DC (length cL)) then
    bif (aj==(1:Int)) then
     (gJ aj cL wc Mt kL) (wrap .i64 (aY+(getD cL (toNat DC) oO).2.1)) (wrap .i64 (DC+(1:Int)))
    else
     bif (aj==(2:Int)) then
      (gJ aj cL wc Mt kL) (wrap .i64 (aY+(getD cL (toNat DC) oO).2.2)) (wrap .i64 (DC+(1:Int)))
     else
      (gJ aj cL wc Mt kL) aY (wrap .i64 (DC+(1:Int)))
   else none
  else
   kL aY
def p8 (N:Nat) (a0:(List QB)) (a1:Int) (kf:Int->Option aa):Option aa:=
 k9 N a0 (λp5=>
  bif (!p5) then
   kf (0:Int)
  else
   gJ a1 a0 (length a0:Int) N kf (0:Int) (0:Int))
def DD (N:Nat) (a0:(List QB)) (kf:Int->Option aa):Option aa:=
 bif (aD (0:Int) (length a0)) then
  tk N (getD a0 (toNat (0:Int)) oO) kf
 else none
def oW (N:Nat) (a0:(List QB)) (kf:Int->Option aa):Option aa:=
 bif ((length a0:Int)==(0:Int)) then
  kf (0:Int)
 else
  k9 N a0 (λiw=>
   bif (!iw) then
    kf (0:Int)
   else
    rD N a0 (1:Int) (λfV=>
     rD N a0 (2:Int) (λFZ=>
      p8 N a0 (1:Int) (λSg=>
       p8 N a0 (2:Int) (λZC=>
        bif (decide ((wrap .i64 (fV - FZ))>(0:Int))) then
         kf (1:Int)
        else
         bif ((wrap .i64 (fV - FZ))==(0:Int)) then
          bif (decide ((wrap .i64 (Sg - ZC))>(0:Int))) then
           kf (1:Int)
          else
           bif (decide ((wrap .i64 (fV - FZ))<(0:Int))) then
            kf (2:Int)
           else
            bif (decide ((wrap .i64 (Sg - ZC))<(0:Int))) then
             kf (2:Int)
            else
             DD N a0 kf
         else
          bif (decide ((wrap .i64 (fV - FZ))<(0:Int))) then
           kf (2:Int)
          else
           bif (decide ((wrap .i64 (Sg - ZC))<(0:Int))) then
            kf (2:Int)
           else
            DD N a0 kf)))))
def uF (N:Nat) (a0:(List QT)) (a4:Int) (a5:Int) (kf:(List QT)->Bool->Option aa) (ab:Int) (aA:Int) (bG:(List QT)):Option aa:=
 bif (aD ab (length bG)) then
  bif (aD ab (length bG)) then
   bif (aD aA (length (List.set bG (toNat ab) ((getD bG (toNat ab) an).1,((getD bG (toNat ab) an).2.1,((getD bG (toNat ab) an).2.2.1,((wrap .i64 ((getD bG (toNat ab) an).2.2.2.1+a4)),(getD bG (toNat ab) an).2.2.2.2))))))) then
    bif (aD aA (length (List.set bG (toNat ab) ((getD bG (toNat ab) an).1,((getD bG (toNat ab) an).2.1,((getD bG (toNat ab) an).2.2.1,((wrap .i64 ((getD bG (toNat ab) an).2.2.2.1+a4)),(getD bG (toNat ab) an).2.2.2.2))))))) then
     share (List.set (List.set bG (toNat ab) ((getD bG (toNat ab) an).1,((getD bG (toNat ab) an).2.1,((getD bG (toNat ab) an).2.2.1,((wrap .i64 ((getD bG (toNat ab) an).2.2.2.1+a4)),(getD bG (toNat ab) an).2.2.2.2))))) (toNat aA) ((getD (List.set bG (toNat ab) ((getD bG (toNat ab) an).1,((getD bG (toNat ab) an).2.1,((getD bG (toNat ab) an).2.2.1,((wrap .i64 ((getD bG (toNat ab) an).2.2.2.1+a4)),(getD bG (toNat ab) an).2.2.2.2))))) (toNat aA) an).1,((getD (List.set bG (toNat ab) ((getD bG (toNat ab) an).1,((getD bG (toNat ab) an).2.1,((getD bG (toNat ab) an).2.2.1,((wrap .i64 ((getD bG (toNat ab) an).2.2.2.1+a4)),(getD bG (toNat ab) an).2.2.2.2))))) (toNat aA) an).2.1,((getD (List.set bG (toNat ab) ((getD bG (toNat ab) an).1,((getD bG (toNat ab) an).2.1,((getD bG (toNat ab) an).2.2.1,((wrap .i64 ((getD bG (toNat ab) an).2.2.2.1+a4)),(getD bG (toNat ab) an).2.2.2.2))))) (toNat aA) an).2.2.1,((wrap .i64 ((getD (List.set bG (toNat ab) ((getD bG (toNat ab) an).1,((getD bG (toNat ab) an).2.1,((getD bG (toNat ab) an).2.2.1,((wrap .i64 ((getD bG (toNat ab) an).2.2.2.1+a4)),(getD bG (toNat ab) an).2.2.2.2))))) (toNat aA) an).2.2.2.1+a5)),(getD (List.set bG (toNat ab) ((getD bG (toNat ab) an).1,((getD bG (toNat ab) an).2.1,((getD bG (toNat ab) an).2.2.1,((wrap .i64 ((getD bG (toNat ab) an).2.2.2.1+a4)),(getD bG (toNat ab) an).2.2.2.2))))) (toNat aA) an).2.2.2.2))))) (λain=>
      cK N ain (λW5=>
       bif (!W5) then
        jD N a0 (λW6=>
         kf W6 false)
       else
        kf ain true))
    else none
   else none
  else none
 else none
def mU (N:Nat) (a0:(List QT)) (a1:Int) (a2:Int) (a3:Int) (a4:Int) (a5:Int) (kf:(List QT)->Bool->Option aa):Option aa:=
 jD N a0 (λaB=>
  bL N a0 a1 (λab=>
   bL N a0 a2 (λaA=>
    cK N a0 (λHl=>
     bif (!Hl) then
      kf aB false
     else
      bif (decide (ab<(0:Int))) then
       kf aB false
      else
       bif (decide (aA<(0:Int))) then
        kf aB false
       else
        bif (ab==aA) then
         kf aB false
        else
         aw N a3 (1:Int) (2:Int) (λZn=>
          bif (!Zn) then
           kf aB false
          else
           aw N a4 (0:Int) (1000:Int) (λahW=>
            bif (!ahW) then
             kf aB false
            else
             aw N a5 (0:Int) (1000:Int) (λahX=>
              bif (!ahX) then
               kf aB false
              else
               bif (aD ab (length aB)) then
                bif (aD aA (length aB)) then
                 bif (decide ((length (getD aB (toNat ab) an).2.2.2.2.2+length [a2])*1<=4398046511104)) then
                  bif ((!(Nat.beq (toNat ab) (toNat aA)))&&true) then
                   bif (decide ((length (getD aB (toNat aA) an).2.2.2.2.2+length [a1])*1<=4398046511104)) then
                    bif (aD ab (length aB)) then
                     bif (Nat.beq (toNat ab) (toNat ab)) then
                      bif (aD aA (length (List.set aB (toNat ab) ((getD aB (toNat ab) an).1,((getD aB (toNat ab) an).2.1,((getD aB (toNat ab) an).2.2.1,((getD aB (toNat ab) an).2.2.2.1,((getD aB (toNat ab) an).2.2.2.2.1,((getD aB (toNat ab) an).2.2.2.2.2++[a2]))))))))) then
                       bif (Nat.beq (toNat aA) (toNat aA)) then
                        share (List.set (List.set aB (toNat ab) ((getD aB (toNat ab) an).1,((getD aB (toNat ab) an).2.1,((getD aB (toNat ab) an).2.2.1,((getD aB (toNat ab) an).2.2.2.1,((getD aB (toNat ab) an).2.2.2.2.1,((getD aB (toNat ab) an).2.2.2.2.2++[a2]))))))) (toNat aA) ((getD (List.set aB (toNat ab) ((getD aB (toNat ab) an).1,((getD aB (toNat ab) an).2.1,((getD aB (toNat ab) an).2.2.1,((getD aB (toNat ab) an).2.2.2.1,((getD aB (toNat ab) an).2.2.2.2.1,((getD aB (toNat ab) an).2.2.2.2.2++[a2]))))))) (toNat aA) an).1,((getD (List.set aB (toNat ab) ((getD aB (toNat ab) an).1,((getD aB (toNat ab) an).2.1,((getD aB (toNat ab) an).2.2.1,((getD aB (toNat ab) an).2.2.2.1,((getD aB (toNat ab) an).2.2.2.2.1,((getD aB (toNat ab) an).2.2.2.2.2++[a2]))))))) (toNat aA) an).2.1,((getD (List.set aB (toNat ab) ((getD aB (toNat ab) an).1,((getD aB (toNat ab) an).2.1,((getD aB (toNat ab) an).2.2.1,((getD aB (toNat ab) an).2.2.2.1,((getD aB (toNat ab) an).2.2.2.2.1,((getD aB (toNat ab) an).2.2.2.2.2++[a2]))))))) (toNat aA) an).2.2.1,((getD (List.set aB (toNat ab) ((getD aB (toNat ab) an).1,((getD aB (toNat ab) an).2.1,((getD aB (toNat ab) an).2.2.1,((getD aB (toNat ab) an).2.2.2.1,((getD aB (toNat ab) an).2.2.2.2.1,((getD aB (toNat ab) an).2.2.2.2.2++[a2]))))))) (toNat aA) an).2.2.2.1,((getD (List.set aB (toNat ab) ((getD aB (toNat ab) an).1,((getD aB (toNat ab) an).2.1,((getD aB (toNat ab) an).2.2.1,((getD aB (toNat ab) an).2.2.2.1,((getD aB (toNat ab) an).2.2.2.2.1,((getD aB (toNat ab) an).2.2.2.2.2++[a2]))))))) (toNat aA) an).2.2.2.2.1,((getD aB (toNat aA) an).2.2.2.2.2++[a1]))))))) (λay=>
                         bif (aD ab (length ay)) then
                          bif (aD ab (length ay)) then
                           bif (a3==(1:Int)) then
                            bif (aD ab (length (List.set ay (toNat ab) ((getD ay (toNat ab) an).1,((getD ay (toNat ab) an).2.1,((getD ay (toNat ab) an).2.2.1,((getD ay (toNat ab) an).2.2.2.1,((wrap .i64 ((getD ay (toNat ab) an).2.2.2.2.1+(1:Int))),(getD ay (toNat ab) an).2.2.2.2.2)))))))) then
                             bif (aD ab (length (List.set ay (toNat ab) ((getD ay (toNat ab) an).1,((getD ay (toNat ab) an).2.1,((getD ay (toNat ab) an).2.2.1,((getD ay (toNat ab) an).2.2.2.1,((wrap .i64 ((getD ay (toNat ab) an).2.2.2.2.1+(1:Int))),(getD ay (toNat ab) an).2.2.2.2.2)))))))) then
                              share (List.set (List.set ay (toNat ab) ((getD ay (toNat ab) an).1,((getD ay (toNat ab) an).2.1,((getD ay (toNat ab) an).2.2.1,((getD ay (toNat ab) an).2.2.2.1,((wrap .i64 ((getD ay (toNat ab) an).2.2.2.2.1+(1:Int))),(getD ay (toNat ab) an).2.2.2.2.2)))))) (toNat ab) ((getD (List.set ay (toNat ab) ((getD ay (toNat ab) an).1,((getD ay (toNat ab) an).2.1,((getD ay (toNat ab) an).2.2.1,((getD ay (toNat ab) an).2.2.2.1,((wrap .i64 ((getD ay (toNat ab) an).2.2.2.2.1+(1:Int))),(getD ay (toNat ab) an).2.2.2.2.2)))))) (toNat ab) an).1,((getD (List.set ay (toNat ab) ((getD ay (toNat ab) an).1,((getD ay (toNat ab) an).2.1,((getD ay (toNat ab) an).2.2.1,((getD ay (toNat ab) an).2.2.2.1,((wrap .i64 ((getD ay (toNat ab) an).2.2.2.2.1+(1:Int))),(getD ay (toNat ab) an).2.2.2.2.2)))))) (toNat ab) an).2.1,((wrap .i64 ((getD (List.set ay (toNat ab) ((getD ay (toNat ab) an).1,((getD ay (toNat ab) an).2.1,((getD ay (toNat ab) an).2.2.1,((getD ay (toNat ab) an).2.2.2.1,((wrap .i64 ((getD ay (toNat ab) an).2.2.2.2.1+(1:Int))),(getD ay (toNat ab) an).2.2.2.2.2)))))) (toNat ab) an).2.2.1+(1:Int))),(getD (List.set ay (toNat ab) ((getD ay (toNat ab) an).1,((getD ay (toNat ab) an).2.1,((getD ay (toNat ab) an).2.2.1,((getD ay (toNat ab) an).2.2.2.1,((wrap .i64 ((getD ay (toNat ab) an).2.2.2.2.1+(1:Int))),(getD ay (toNat ab) an).2.2.2.2.2)))))) (toNat ab) an).2.2.2)))) (λbd=>
                               uF N a0 a4 a5 kf ab aA bd)
                             else none
                            else none
                           else
                            bif (aD aA (length (List.set ay (toNat ab) ((getD ay (toNat ab) an).1,((getD ay (toNat ab) an).2.1,((getD ay (toNat ab) an).2.2.1,((getD ay (toNat ab) an).2.2.2.1,((wrap .i64 ((getD ay (toNat ab) an).2.2.2.2.1+(1:Int))),(getD ay (toNat ab) an).2.2.2.2.2)))))))) then
                             bif (aD aA (length (List.set ay (toNat ab) ((getD ay (toNat ab) an).1,((getD ay (toNat ab) an).2.1,((getD ay (toNat ab) an).2.2.1,((getD ay (toNat ab) an).2.2.2.1,((wrap .i64 ((getD ay (toNat ab) an).2.2.2.2.1+(1:Int))),(getD ay (toNat ab) an).2.2.2.2.2)))))))) then
                              share (List.set (List.set ay (toNat ab) ((getD ay (toNat ab) an).1,((getD ay (toNat ab) an).2.1,((getD ay (toNat ab) an).2.2.1,((getD ay (toNat ab) an).2.2.2.1,((wrap .i64 ((getD ay (toNat ab) an).2.2.2.2.1+(1:Int))),(getD ay (toNat ab) an).2.2.2.2.2)))))) (toNat aA) ((getD (List.set ay (toNat ab) ((getD ay (toNat ab) an).1,((getD ay (toNat ab) an).2.1,((getD ay (toNat ab) an).2.2.1,((getD ay (toNat ab) an).2.2.2.1,((wrap .i64 ((getD ay (toNat ab) an).2.2.2.2.1+(1:Int))),(getD ay (toNat ab) an).2.2.2.2.2)))))) (toNat aA) an).1,((getD (List.set ay (toNat ab) ((getD ay (toNat ab) an).1,((getD ay (toNat ab) an).2.1,((getD ay (toNat ab) an).2.2.1,((getD ay (toNat ab) an).2.2.2.1,((wrap .i64 ((getD ay (toNat ab) an).2.2.2.2.1+(1:Int))),(getD ay (toNat ab) an).2.2.2.2.2)))))) (toNat aA) an).2.1,((wrap .i64 ((getD (List.set ay (toNat ab) ((getD ay (toNat ab) an).1,((getD ay (toNat ab) an).2.1,((getD ay (toNat ab) an).2.2.1,((getD ay (toNat ab) an).2.2.2.1,((wrap .i64 ((getD ay (toNat ab) an).2.2.2.2.1+(1:Int))),(getD ay (toNat ab) an).2.2.2.2.2)))))) (toNat aA) an).2.2.1+(1:Int))),(getD (List.set ay (toNat ab) ((getD ay (toNat ab) an).1,((getD ay (toNat ab) an).2.1,((getD ay (toNat ab) an).2.2.1,((getD ay (toNat ab) an).2.2.2.1,((wrap .i64 ((getD ay (toNat ab) an).2.2.2.2.1+(1:Int))),(getD ay (toNat ab) an).2.2.2.2.2)))))) (toNat aA) an).2.2.2)))) (λabU=>
                               uF N a0 a4 a5 kf ab aA abU)
                             else none
                            else none
                          else none
                         else none)
                       else none
                      else none
                     else none
                    else none
                   else none
                  else none
                 else none
                else none
               else none)))))))
def acb (N:Nat) (a0:(List Int)) (kf:(List Int)->Option aa):Option aa:=
 bif (Nat.blt (length a0) 4611686018427387904) then
  kf (tc a0)
 else none
def afC (N:Nat) (a0:(List Int)) (kf:(List Int)->Option aa):Option aa:=
 kf (jM a0)
def gK (N:Nat) (o7:QC) (Zx:QC) (nN:(List bE)) (aio:Int):Nat->(QC->Option aa)->(QC->Bool->Option aa)->QC->Int->Option aa
 |0,_,_,_,_=>none
 |aod+1,IB,IC,pP,sJ=>
  bif (decide (sJ<aio)) then
   bif (aD sJ (length nN)) then
    bif (aD sJ (length o7.2.2.2.2.1)) then
     oW N [(getD o7.2.2.2.2.1 (toNat sJ) oO)] (λSB=>
      mU N pP.1 (getD nN (toNat sJ) ff).1 (getD nN (toNat sJ) ff).2 SB (getD o7.2.2.2.2.1 (toNat sJ) oO).2.1 (getD o7.2.2.2.2.1 (toNat sJ) oO).2.2 (λSC SD=>
       bif (!SD) then
        aF N o7 (λSE=>
         IC SE false)
       else
        bif (aD sJ (length o7.2.2.2.1)) then
         j8 N pP.2.1 (getD o7.2.2.2.1 (toNat sJ) (0:Int)) (λgL=>
          bif (aD gL (length pP.2.1)) then
           bif (decide ((length (getD pP.2.1 (toNat gL) dY).2.2+length [(getD nN (toNat sJ) ff).1,(getD nN (toNat sJ) ff).2])*1<=4398046511104)) then
            acb N ((getD pP.2.1 (toNat gL) dY).2.2++[(getD nN (toNat sJ) ff).1,(getD nN (toNat sJ) ff).2]) (λSF=>
             afC N SF (λSG=>
              bif (aD gL (length pP.2.1)) then
               bif (Nat.beq (toNat gL) (toNat gL)) then
                (gK N o7 Zx nN aio aod IB IC) (SC,((List.set pP.2.1 (toNat gL) ((getD pP.2.1 (toNat gL) dY).1,((getD pP.2.1 (toNat gL) dY).2.1,SG))),pP.2.2)) (wrap .i64 (sJ+(1:Int)))
               else none
              else none))
           else none
          else none)
        else none))
    else none
   else none
  else
   IB pP
def mV (N:Nat) (a0:QC) (kf:QC->Bool->Option aa):Option aa:=
 lD N a0 (λx7=>
  bif (!x7) then
   aF N a0 (λHl=>
    kf Hl false)
  else
   dL N a0 (λDp=>
    bif (!Dp) then
     aF N a0 (λHl=>
      kf Hl false)
    else
     iS N a0 (λarO=>
      bif (decide ((length arO:Int)>(0:Int))) then
       aF N a0 (λZD=>
        kf ZD false)
      else
       aF N a0 (λarP=>
        gK N a0 (([]:(List QT)),(([]:(List QJ)),(([]:(List bE)),(([]:(List Int)),(([]:(List QB)),(([]:(List QL)),(0:Int))))))) a0.2.2.1 (length a0.2.2.1:Int) N (λadW=>
         j0 N a0 (adW.1,(adW.2.1,(([]:(List bE)),(([]:(List Int)),(([]:(List QB)),(adW.2.2.2.2.2.1,(wrap .i64 (adW.2.2.2.2.2.2+(length a0.2.2.1:Int))))))))) (5:Int) (0:Int) kf) kf arP (0:Int)))))
def aoH (N:Nat) (a0:(List QT)) (a1:Int) (a2:Int) (kf:(List QT)->Option aa):Option aa:=
 bif (decide ((0:Int)<=a1)&&(decide (a1<=a2)&&decide (a2<=(length a0:Int)))) then
  kf (List.take (toNat a1) a0++List.drop (toNat a2) a0)
 else none
def kO (N:Nat) (a0:QC) (a1:Int) (kf:QC->Bool->Option aa):Option aa:=
 aF N a0 (λp5=>
  bL N a0.1 a1 (λur=>
   bif (decide (ur<(0:Int))) then
    kf p5 false
   else
    bif (aD ur (length a0.1)) then
     bif (decide ((length (getD a0.1 (toNat ur) an).2.2.2.2.2:Int)>(0:Int))) then
      kf p5 false
     else
      dL N a0 (λahL=>
       bif ahL then
        kf p5 false
       else
        aoH N p5.1 ur (wrap .i64 (ur+(1:Int))) (λaip=>
         j0 N a0 (aip,p5.2) (6:Int) a1 kf))
    else none))
def ME (N:Nat) (a0:QC) (a1:ByteArray) (a2:(List Int)) (kf:QC->Bool->Bool->Option aa):Option aa:=
 bif (ByteArray.toList a1==ByteArray.toList Vz) then
  zZ N (λadV=>
   kf adV true true)
 else
  bif (ByteArray.toList a1==ByteArray.toList abK) then
   bif (aD (0:Int) (length a2)) then
    bif (aD (1:Int) (length a2)) then
     gw N a0 (getD a2 (toNat (0:Int)) (0:Int)) (getD a2 (toNat (1:Int)) (0:Int)) (λarQ aiq=>
      kf arQ aiq true)
    else none
   else none
  else
   bif (ByteArray.toList a1==ByteArray.toList WQ) then
    bif (aD (0:Int) (length a2)) then
     bif (aD (1:Int) (length a2)) then
      jd N a0 (getD a2 (toNat (0:Int)) (0:Int)) (getD a2 (toNat (1:Int)) (0:Int)) (λZq JR=>
       kf Zq JR true)
     else none
    else none
   else
    bif (ByteArray.toList a1==ByteArray.toList KL) then
     oV N a0 (λarR arS=>
      kf arR arS true)
    else
     bif (ByteArray.toList a1==ByteArray.toList Y8) then
      bif (aD (0:Int) (length a2)) then
       bif (aD (1:Int) (length a2)) then
        bif (aD (2:Int) (length a2)) then
         fu N a0 (getD a2 (toNat (0:Int)) (0:Int)) (getD a2 (toNat (1:Int)) (0:Int)) (getD a2 (toNat (2:Int)) (0:Int)) (λarT arU=>
          kf arT arU true)
        else none
       else none
      else none
     else
      bif (ByteArray.toList a1==ByteArray.toList Mo) then
       mV N a0 (λaoI aoJ=>
        kf aoI aoJ true)
      else
       bif (ByteArray.toList a1==ByteArray.toList WO) then
        bif (aD (0:Int) (length a2)) then
         kO N a0 (getD a2 (toNat (0:Int)) (0:Int)) (λaoK aoL=>
          kf aoK aoL true)
        else none
       else
        kf a0 false false
def ak5 (N:Nat) (a0:(List ByteArray)) (a1:ByteArray) (kf:ByteArray->Option aa):Option aa:=
 bif (Nat.ble (length a0) 140737488355328&&Nat.ble (ByteArray.size (BQ a0 a1)) 140737488355328) then
  kf (BQ a0 a1)
 else none
def nq (N:Nat) (a0:(List ByteArray)) (kf:ByteArray->Option aa):Option aa:=
 bif ((length a0:Int)==(0:Int)) then
  kf oc
 else
  ak5 N a0 BT kf
def dt (N:Nat) (bR:(List Int)) (q8:Int):Nat->((List ByteArray)->Option aa)->(List ByteArray)->Int->Option aa
 |0,_,_,_=>none
 |po+1,bF,bg,iX=>
  bif (decide (iX<q8)) then
   bif (aD iX (length bR)) then
    aM N (getD bR (toNat iX) (0:Int)) (λuv=>
     bif (decide ((length bg+length [uv])*1<=4398046511104)) then
      (dt N bR q8 po bF) (bg++[uv]) (wrap .i64 (iX+(1:Int)))
     else none)
   else none
  else
   bF bg
def br (N:Nat) (a0:(List Int)) (kf:ByteArray->Option aa):Option aa:=
 dt N a0 (length a0:Int) N (λaot=>
  nq N aot kf) ([]:(List ByteArray)) (0:Int)
def eM (N:Nat) (bR:(List QT)) (q8:Int):Nat->((List ByteArray)->Option aa)->(List ByteArray)->Int->Option aa
 |0,_,_,_=>none
 |po+1,ID,bg,iX=>
  bif (decide (iX<q8)) then
   bif (aD iX (length bR)) then
    aM N (getD bR (toNat iX) an).1 (λja=>
     bif (decide (ByteArray.size ja+ByteArray.size uf<=9223372036854775807)) then
      aM N (getD bR (toNat iX) an).2.2.1 (λAJ=>
       bif (decide (ByteArray.size (ja++uf)+ByteArray.size AJ<=9223372036854775807)) then
        bif (decide (ByteArray.size ((ja++uf)++AJ)+ByteArray.size Ay<=9223372036854775807)) then
         aM N (length (getD bR (toNat iX) an).2.2.2.2.2:Int) (λHs=>
          bif (decide (ByteArray.size (((ja++uf)++AJ)++Ay)+ByteArray.size Hs<=9223372036854775807)) then
           bif (decide (ByteArray.size ((((ja++uf)++AJ)++Ay)++Hs)+ByteArray.size Hg<=9223372036854775807)) then
            aM N (getD bR (toNat iX) an).2.2.2.1 (λSH=>
             bif (decide (ByteArray.size (((((ja++uf)++AJ)++Ay)++Hs)++Hg)+ByteArray.size SH<=9223372036854775807)) then
              bif (decide ((length bg+length [((((((ja++uf)++AJ)++Ay)++Hs)++Hg)++SH)])*1<=4398046511104)) then
               (eM N bR q8 po ID) (bg++[((((((ja++uf)++AJ)++Ay)++Hs)++Hg)++SH)]) (wrap .i64 (iX+(1:Int)))
              else none
             else none)
           else none
          else none)
        else none
       else none)
     else none)
   else none
  else
   ID bg
def kr (N:Nat) (a0:(List QT)) (kf:ByteArray->Option aa):Option aa:=
 eM N a0 (length a0:Int) N (λarV=>
  nq N arV kf) ([]:(List ByteArray)) (0:Int)
def my (N:Nat) (aoM:(List ByteArray)->Int->Option aa) (cE:(List bE)) (ij:Int) (fZ:(List ByteArray)) (aoN:ByteArray):Option aa:=
 aM N (getD cE (toNat ij) ff).1 (λpy=>
  bif (decide (ByteArray.size py+ByteArray.size oc<=9223372036854775807)) then
   aM N (getD cE (toNat ij) ff).2 (λnO=>
    bif (decide (ByteArray.size (py++oc)+ByteArray.size nO<=9223372036854775807)) then
     bif (decide (ByteArray.size ((py++oc)++nO)+ByteArray.size Az<=9223372036854775807)) then
      bif (decide (ByteArray.size (((py++oc)++nO)++Az)+ByteArray.size aoN<=9223372036854775807)) then
       bif (decide ((length fZ+length [((((py++oc)++nO)++Az)++aoN)])*1<=4398046511104)) then
        aoM (fZ++[((((py++oc)++nO)++Az)++aoN)]) (wrap .i64 (ij+(1:Int)))
       else none
      else none
     else none
    else none)
  else none)
def dd (N:Nat) (cO:(List Int)) (cE:(List bE)) (og:Int):Nat->((List ByteArray)->Option aa)->(List ByteArray)->Int->Option aa
 |0,_,_,_=>none
 |BX+1,pv,fZ,ij=>
  bif (decide (ij<og)) then
   bif (aD ij (length cE)) then
    bif (decide (ij<(length cO:Int))) then
     bif (aD ij (length cO)) then
      aM N (getD cO (toNat ij) (0:Int)) (λMy=>
       my N (dd N cO cE og BX pv) cE ij fZ My)
     else none
    else
     my N (dd N cO cE og BX pv) cE ij fZ PY
   else none
  else
   pv fZ
def ku (N:Nat) (a0:(List bE)) (a1:(List Int)) (kf:ByteArray->Option aa):Option aa:=
 dd N a1 a0 (length a0:Int) N (λadX=>
  nq N adX kf) ([]:(List ByteArray)) (0:Int)
def ld (N:Nat) (a0:QC) (kf:ByteArray->Option aa):Option aa:=
 iS N a0 (λic=>
  br N [(length a0.1:Int),(length a0.2.1:Int),(length a0.2.2.1:Int),(length ic:Int),a0.2.2.2.2.2.2,(length a0.2.2.2.2.2.1:Int)] kf)
def cd (N:Nat) (kf:dG->Option aa):Option aa:=
 kf ((5:Int),[[(0:Int),(1:Int)],[(1:Int),(0:Int)],[(1:Int),(2:Int)],[(2:Int),(3:Int)],[(3:Int),(4:Int)],[(4:Int),(2:Int)]])
def qC (N:Nat) (a0:dG) (a1:Int) (kf:Bool->Option aa):Option aa:=
 aw N a1 (0:Int) (wrap .i64 (a0.1 - (1:Int))) kf
def o8 (N:Nat) (ae:(List Int)) (aj:(List Int)) (sF:(List Int)) (jq:Int):Nat->(Option aa)->(Int->Option aa)->Int->Option aa
 |0,_,_,_=>none
 |BX+1,Fp,uG,qK=>
  bif (decide (qK<jq)) then
   bif (aD qK (length sF)) then
    bif (decide (qK≥(length aj:Int))) then
     uG (1:Int)
    else
     bif (aD qK (length aj)) then
      jF N (getD sF (toNat qK) (0:Int)) (getD aj (toNat qK) (0:Int)) (λam5=>
       bif (am5 != (0:Int)) then
        uG am5
       else
        (o8 N ae aj sF jq BX Fp uG) (wrap .i64 (qK+(1:Int))))
     else none
   else none
  else
   Fp
def sK (N:Nat) (a0:(List Int)) (a1:(List Int)) (kf:Int->Option aa):Option aa:=
 o8 N a0 a1 a0 (length a0:Int) N (
  bif (decide ((length a0:Int)<(length a1:Int))) then
   kf (-1:Int)
  else
   kf (0:Int)) kf (0:Int)
def si (N:Nat) (aj:dG) (cE:(List (List Int))) (og:Int):Nat->(Option aa)->(Bool->Option aa)->Int->Option aa
 |0,_,_,_=>none
 |BX+1,Fo,xK,ij=>
  bif (decide (ij<og)) then
   bif (aD ij (length cE)) then
    bif ((length (getD cE (toNat ij) ([]:(List Int))):Int) != (2:Int)) then
     xK false
    else
     bif (aD (0:Int) (length (getD cE (toNat ij) ([]:(List Int))))) then
      qC N aj (getD (getD cE (toNat ij) ([]:(List Int))) (toNat (0:Int)) (0:Int)) (λMy=>
       bif (!My) then
        xK false
       else
        bif (aD (1:Int) (length (getD cE (toNat ij) ([]:(List Int))))) then
         qC N aj (getD (getD cE (toNat ij) ([]:(List Int))) (toNat (1:Int)) (0:Int)) (λarW=>
          bif (!arW) then
           xK false
          else
           bif (decide (ij>(0:Int))) then
            bif (aD (wrap .i64 (ij - (1:Int))) (length aj.2)) then
             sK N (getD aj.2 (toNat (wrap .i64 (ij - (1:Int)))) ([]:(List Int))) (getD cE (toNat ij) ([]:(List Int))) (λarX=>
              bif (decide (arX≥(0:Int))) then
               xK false
              else
               (si N aj cE og BX Fo xK) (wrap .i64 (ij+(1:Int))))
            else none
           else
            (si N aj cE og BX Fo xK) (wrap .i64 (ij+(1:Int))))
        else none)
     else none
   else none
  else
   Fo
def lF (N:Nat) (a0:dG) (kf:Bool->Option aa):Option aa:=
 aw N a0.1 (0:Int) (10:Int) (λx8=>
  bif (!x8) then
   kf false
  else
   si N a0 a0.2 (length a0.2:Int) N (kf true) kf (0:Int))
def xL (N:Nat) (aj:(List Int)) (hJ:dG) (jq:(List Int)) (qK:Int):Nat->(Option aa)->(Bool->Option aa)->Int->Option aa
 |0,_,_,_=>none
 |Mt+1,CP,uo,DE=>
  bif (decide (DE<qK)) then
   bif (aD DE (length jq)) then
    qC N hJ (getD jq (toNat DE) (0:Int)) (λZB=>
     bif (!ZB) then
      uo false
     else
      bif (decide (DE>(0:Int))) then
       bif (aD (wrap .i64 (DE - (1:Int))) (length aj)) then
        bif (decide ((getD jq (toNat DE) (0:Int))<=(getD aj (toNat (wrap .i64 (DE - (1:Int)))) (0:Int)))) then
         uo false
        else
         (xL N aj hJ jq qK Mt CP uo) (wrap .i64 (DE+(1:Int)))
       else none
      else
       (xL N aj hJ jq qK Mt CP uo) (wrap .i64 (DE+(1:Int))))
   else none
  else
   CP
def Fq (N:Nat) (a0:dG) (a1:(List Int)) (kf:Bool->Option aa):Option aa:=
 lF N a0 (λUv=>
  bif (!Uv) then
   kf false
  else
   xL N a1 a0 a1 (length a1:Int) N (kf true) kf (0:Int))
def pz (aj:Int) (b9:(List (List Int))) (DF:Int):Nat->((List Int)->Option aa)->(List Int)->Int->Option aa
 |0,_,_,_=>none
 |Mt+1,kL,aY,uH=>
  bif (decide (uH<DF)) then
   bif (aD uH (length b9)) then
    bif (aD (0:Int) (length (getD b9 (toNat uH) ([]:(List Int))))) then
     bif ((getD (getD b9 (toNat uH) ([]:(List Int))) (toNat (0:Int)) (0:Int))==aj) then
      bif (aD (1:Int) (length (getD b9 (toNat uH) ([]:(List Int))))) then
       bif (decide ((length aY+length [(getD (getD b9 (toNat uH) ([]:(List Int))) (toNat (1:Int)) (0:Int))])*1<=4398046511104)) then
        (pz aj b9 DF Mt kL) (aY++[(getD (getD b9 (toNat uH) ([]:(List Int))) (toNat (1:Int)) (0:Int))]) (wrap .i64 (uH+(1:Int)))
       else none
      else none
     else
      (pz aj b9 DF Mt kL) aY (wrap .i64 (uH+(1:Int)))
    else none
   else none
  else
   kL aY
def Ht (N:Nat) (a0:dG) (a1:Int) (kf:(List Int)->Option aa):Option aa:=
 lF N a0 (λiw=>
  bif (!iw) then
   kf ([]:(List Int))
  else
   pz a1 a0.2 (length a0.2:Int) N kf ([]:(List Int)) (0:Int))
def CS (N:Nat) (arY:dG) (sF:(List Int)) (jq:Int):Nat->((List Int)->Option aa)->(List Int)->Int->Option aa
 |0,_,_,_=>none
 |BX+1,fh,fZ,qK=>
  bif (decide (qK<jq)) then
   bif (aD qK (length sF)) then
    Ht N arY (getD sF (toNat qK) (0:Int)) (λadY=>
     bif (decide ((length fZ+length adY)*1<=4398046511104)) then
      (CS N arY sF jq BX fh) (fZ++adY) (wrap .i64 (qK+(1:Int)))
     else none)
   else none
  else
   fh fZ
def KT (N:Nat) (a0:dG) (a1:(List Int)) (kf:(List Int)->Option aa):Option aa:=
 CS N a0 a1 (length a1:Int) N (λarZ=>
  acb N arZ (λaih=>
   afC N aih kf)) ([]:(List Int)) (0:Int)
def mA (aj:Int) (b9:(List (List Int))) (DF:Int):Nat->((List Int)->Option aa)->(List Int)->Int->Option aa
 |0,_,_,_=>none
 |Mt+1,kL,aY,uH=>
  bif (decide (uH<DF)) then
   bif (aD uH (length b9)) then
    bif (aD (1:Int) (length (getD b9 (toNat uH) ([]:(List Int))))) then
     bif ((getD (getD b9 (toNat uH) ([]:(List Int))) (toNat (1:Int)) (0:Int))==aj) then
      bif (aD (0:Int) (length (getD b9 (toNat uH) ([]:(List Int))))) then
       bif (decide ((length aY+length [(getD (getD b9 (toNat uH) ([]:(List Int))) (toNat (0:Int)) (0:Int))])*1<=4398046511104)) then
        (mA aj b9 DF Mt kL) (aY++[(getD (getD b9 (toNat uH) ([]:(List Int))) (toNat (0:Int)) (0:Int))]) (wrap .i64 (uH+(1:Int)))
       else none
      else none
     else
      (mA aj b9 DF Mt kL) aY (wrap .i64 (uH+(1:Int)))
    else none
   else none
  else
   kL aY
def qD (N:Nat) (a0:dG) (a1:Int) (kf:(List Int)->Option aa):Option aa:=
 lF N a0 (λiw=>
  bif (!iw) then
   kf ([]:(List Int))
  else
   mA a1 a0.2 (length a0.2:Int) N kf ([]:(List Int)) (0:Int))
def yK (N:Nat) (ar0:(List Int)) (air:(List Int)) (am6:Int):Nat->(Option aa)->(Bool->Option aa)->Int->Option aa
 |0,_,_,_=>none
 |n_9+1,uC,adZ,ad0=>
  bif (decide (ad0<am6)) then
   bif (aD ad0 (length air)) then
    bp N ar0 (getD air (toNat ad0) (0:Int)) (λnO=>
     bif (!nO) then
      adZ false
     else
      (yK N ar0 air am6 n_9 uC adZ) (wrap .i64 (ad0+(1:Int))))
   else none
  else
   uC
def MF (N:Nat) (a0:dG) (a1:(List Int)) (a2:Int) (kf:Bool->Option aa):Option aa:=
 Fq N a0 a1 (λx7=>
  bif (!x7) then
   kf false
  else
   qC N a0 a2 (λSz=>
    bif (!Sz) then
     kf false
    else
     KT N a0 a1 (λZs=>
      qD N a0 a2 (λadU=>
       yK N Zs adU (length adU:Int) N (kf true) kf (0:Int)))))
def nP (N:Nat) (aj:(List Int)) (hJ:dG) (gF:Int):Nat->((List Int)->Option aa)->(List Int)->Int->Option aa
 |0,_,_,_=>none
 |Mt+1,gI,mn,uI=>
  bif (decide (uI<gF)) then
   MF N hJ aj uI (λais=>
    bif ais then
     bif (decide ((length mn+length [uI])*1<=4398046511104)) then
      (nP N aj hJ gF Mt gI) (mn++[uI]) (wrap .i64 (uI+(1:Int)))
     else none
    else
     (nP N aj hJ gF Mt gI) mn (wrap .i64 (uI+(1:Int))))
  else
   gI mn
def yL (N:Nat) (a0:dG) (a1:(List Int)) (kf:(List Int)->Option aa):Option aa:=
 Fq N a0 a1 (λiw=>
  bif (!iw) then
   kf ([]:(List Int))
  else
   nP N a1 a0 a0.1 N kf ([]:(List Int)) (0:Int))
def eN (ae:(List Int)) (aj:(List Int)) (gu:Int):Nat->(Option aa)->(Bool->Option aa)->Int->Option aa
 |0,_,_,_=>none
 |po+1,iK,iL,cD=>
  bif (decide (cD<gu)) then
   bif (aD cD (length ae)) then
    bif (aD cD (length aj)) then
     bif ((getD ae (toNat cD) (0:Int)) != (getD aj (toNat cD) (0:Int))) then
      iL false
     else
      (eN ae aj gu po iK iL) (wrap .i64 (cD+(1:Int)))
    else none
   else none
  else
   iK
def gg (N:Nat) (a0:(List Int)) (a1:(List Int)) (kf:Bool->Option aa):Option aa:=
 bif ((length a0:Int) != (length a1:Int)) then
  kf false
 else
  eN a0 a1 (length a0:Int) N (kf true) kf (0:Int)
def AL (N:Nat) (aj:dG):Nat->((List (List Int))->Option aa)->(List (List Int))->Option aa
 |0,_,_=>none
 |Iu+1,fi,nQ=>
  bif (aD (wrap .i64 ((length nQ:Int) - (1:Int))) (length nQ)) then
   yL N aj (getD nQ (toNat (wrap .i64 ((length nQ:Int) - (1:Int)))) ([]:(List Int))) (λait=>
    gg N ait (getD nQ (toNat (wrap .i64 ((length nQ:Int) - (1:Int)))) ([]:(List Int))) (λar1=>
     bif ar1 then
      fi nQ
     else
      bif (decide ((length nQ+length [ait])*1<=4398046511104)) then
       (AL N aj Iu fi) (nQ++[ait])
      else none))
  else none
def P4 (N:Nat) (a0:dG) (kf:(List (List Int))->Option aa):Option aa:=
 lF N a0 (λp5=>
  bif (!p5) then
   kf [([]:(List Int))]
  else
   AL N a0 N kf [([]:(List Int))])
def JZ (N:Nat) (a0:dG) (kf:(List Int)->Option aa):Option aa:=
 P4 N a0 (λGA=>
  bif (aD (wrap .i64 ((length GA:Int) - (1:Int))) (length GA)) then
   kf (getD GA (toNat (wrap .i64 ((length GA:Int) - (1:Int)))) ([]:(List Int)))
  else none)
def AM (N:Nat) (sC:(List Int)) (cD:(List Int)) (gF:Int):Nat->(Option aa)->(Bool->Option aa)->Int->Option aa
 |0,_,_,_=>none
 |Mt+1,CP,uo,uI=>
  bif (decide (uI<gF)) then
   bif (aD uI (length cD)) then
    bp N sC (getD cD (toNat uI) (0:Int)) (λais=>
     bif ais then
      uo false
     else
      (AM N sC cD gF Mt CP uo) (wrap .i64 (uI+(1:Int))))
   else none
  else
   CP
def P5 (N:Nat) (a0:dG) (a1:(List Int)) (kf:Bool->Option aa):Option aa:=
 Fq N a0 a1 (λp5=>
  bif (!p5) then
   kf false
  else
   KT N a0 a1 (λur=>
    AM N a1 ur (length ur:Int) N (kf true) kf (0:Int)))
def F4 (N:Nat) (a0:dG) (a1:(List Int)) (kf:Bool->Option aa):Option aa:=
 P5 N a0 a1 (λx8=>
  bif x8 then
   yL N a0 a1 (λaiu=>
    gg N aiu a1 kf)
  else
   kf false)
def bB (N:Nat) (o7:Int) (Zx:Int) (aoE:Int):Nat->((List (List Int))->Option aa)->(List (List Int))->Int->Option aa
 |0,_,_,_=>none
 |WT+1,Fl,iD,lE=>
  bif (decide (lE>o7)) then
   bif (aD lE (length iD)) then
    bif (aD (wrap .i64 (lE - (1:Int))) (length iD)) then
     sK N (getD iD (toNat lE) ([]:(List Int))) (getD iD (toNat (wrap .i64 (lE - (1:Int)))) ([]:(List Int))) (λab7=>
      bif (decide (ab7<(0:Int))) then
       bif (aD (wrap .i64 (lE - (1:Int))) (length iD)) then
        bif (aD lE (length iD)) then
         bif (aD lE (length iD)) then
          share (List.set iD (toNat lE) (getD iD (toNat (wrap .i64 (lE - (1:Int)))) ([]:(List Int)))) (λZy=>
           bif (aD (wrap .i64 (lE - (1:Int))) (length Zy)) then
            share (List.set Zy (toNat (wrap .i64 (lE - (1:Int)))) (getD iD (toNat lE) ([]:(List Int)))) (λaik=>
             (bB N o7 Zx aoE WT Fl) aik (wrap .i64 (lE - (1:Int))))
           else none)
         else none
        else none
       else none
      else
       Fl iD)
    else none
   else none
  else
   Fl iD
def bC (N:Nat) (aj:Int) (hJ:Int):Nat->((List (List Int))->Option aa)->(List (List Int))->Int->Option aa
 |0,_,_,_=>none
 |po+1,MD,ae,jP=>
  bif (decide (jP<hJ)) then
   bB N aj hJ jP N (λail=>
    (bC N aj hJ po MD) ail (wrap .i64 (jP+(1:Int)))) ae jP
  else
   MD ae
def dy (N:Nat) (a0:(List (List Int))) (a1:Int) (a2:Int) (kf:(List (List Int))->Option aa):Option aa:=
 bC N a1 a2 N kf a0 (wrap .i64 (a1+(1:Int)))
def eC (N:Nat) (ae:(List (List Int))) (aj:Int) (hJ:Int) (eJ:Int) (pq:Bool) (arF:Bool):Nat->((List (List Int))->Option aa)->Option aa
 |0,_=>none
 |Mt+1,CR=>
  bif (decide ((wrap .i64 (hJ - aj))<=(12:Int))) then
   dy N ae aj hJ CR
  else
   bif (eJ==(0:Int)) then
    none
   else
    bif (!pq) then
     none
    else none
def fB (N:Nat) (a0:(List (List Int))) (a1:Int) (a2:Int) (a3:Int) (kf:(List (List Int))->Option aa):Option aa:=
 eC N a0 a1 a2 a3 true true N kf
def iO (N:Nat) (a0:(List (List Int))) (kf:(List (List Int))->Option aa):Option aa:=
 rC N (wrap .u64 (length a0:Int)) (λcI=>
  fB N a0 (0:Int) (length a0:Int) cI kf)
def mB (o7:dG) (ar2:(List (List Int))) (pP:Int) (aiv:Int) (aiw:Int) (acd:Int):Nat->((List Int)->Option aa)->(List Int)->Int->Option aa
 |0,_,_,_=>none
 |akX+1,W7,ad1,KU=>
  bif (decide (KU<acd)) then
   bif (decide (0<=KU)) then
    bif ((wrap .i64 (BitVec.toNat (BitVec.ofInt (IntKind.bits .i64) (Int.fdiv pP (2^(min (toNat KU) (IntKind.bits .i64))))&&&BitVec.ofInt (IntKind.bits .i64) (1:Int))))==(1:Int)) then
     bif (decide ((length ad1+length [KU])*1<=4398046511104)) then
      (mB o7 ar2 pP aiv aiw acd akX W7) (ad1++[KU]) (wrap .i64 (KU+(1:Int)))
     else none
    else
     (mB o7 ar2 pP aiv aiw acd akX W7) ad1 (wrap .i64 (KU+(1:Int)))
   else none
  else
   W7 ad1
def mC (N:Nat) (aj:dG) (b9:Int):Nat->((List (List Int))->Option aa)->(List (List Int))->Int->Option aa
 |0,_,_,_=>none
 |BX+1,W8,nQ,DF=>
  bif (decide (DF<b9)) then
   mB aj nQ DF b9 DF aj.1 N (λaix=>
    F4 N aj aix (λaoO=>
     bif aoO then
      bif (decide ((length nQ+length [aix])*1<=4398046511104)) then
       (mC N aj b9 BX W8) (nQ++[aix]) (wrap .i64 (DF+(1:Int)))
      else none
     else
      (mC N aj b9 BX W8) nQ (wrap .i64 (DF+(1:Int))))) ([]:(List Int)) (0:Int)
  else
   W8 nQ
def DG (N:Nat) (a0:dG) (kf:(List (List Int))->Option aa):Option aa:=
 lF N a0 (λp5=>
  bif (!p5) then
   kf ([]:(List (List Int)))
  else
   bif (decide (0<=a0.1)) then
    mC N a0 (wrap .i64 ((1:Int)*2^(min (toNat a0.1) (IntKind.bits .i64)))) N (λar3=>
     iO N ar3 kf) ([]:(List (List Int))) (0:Int)
   else none)
def xi (N:Nat) (cO:(List Int)) (bR:(List Int)) (q8:Int):Nat->(Option aa)->(Bool->Option aa)->Int->Option aa
 |0,_,_,_=>none
 |po+1,iY,iZ,iX=>
  bif (decide (iX<q8)) then
   bif (aD iX (length bR)) then
    bp N cO (getD bR (toNat iX) (0:Int)) (λuv=>
     bif (!uv) then
      iZ false
     else
      (xi N cO bR q8 po iY iZ) (wrap .i64 (iX+(1:Int))))
   else none
  else
   iY
def J0 (N:Nat) (a0:(List Int)) (a1:(List Int)) (kf:Bool->Option aa):Option aa:=
 xi N a1 a0 (length a0:Int) N (kf true) kf (0:Int)
def DH (N:Nat) (a0:(List Int)) (a1:(List Int)) (kf:Bool->Option aa):Option aa:=
 bif (decide ((length a0:Int)>(length a1:Int))) then
  J0 N a1 a0 kf
 else
  kf false
def cV (N:Nat) (ae:(List (List Int))) (aj:(List Int)) (Dy:Int):Nat->(Option aa)->(Int->Option aa)->Int->Option aa
 |0,_,_,_=>none
 |po+1,iY,iZ,jP=>
  bif (decide (jP<Dy)) then
   bif (aD jP (length ae)) then
    DH N (getD ae (toNat jP) ([]:(List Int))) aj (λja=>
     bif ja then
      iZ jP
     else
      (cV N ae aj Dy po iY iZ) (wrap .i64 (jP+(1:Int))))
   else none
  else
   iY
def je (N:Nat) (a0:(List (List Int))) (WW:(List Int)) (kf:Int->Option aa):Option aa:=
 cV N a0 WW (length a0:Int) N (kf (-1:Int)) kf (0:Int)
def il (N:Nat) (a0:(List (List Int))) (WW:(List Int)) (kf:Bool->Option aa):Option aa:=
 je N a0 WW (λx8=>
  kf (decide (x8≥(0:Int))))
def pA (N:Nat) (ao:(List (List Int))) (og:Int):Nat->((List (List Int))->Option aa)->(List (List Int))->Int->Option aa
 |0,_,_,_=>none
 |BX+1,bz,bV,ij=>
  bif (decide (ij<og)) then
   bif (aD ij (length ao)) then
    il N ao (getD ao (toNat ij) ([]:(List Int))) (λadY=>
     bif (!adY) then
      bif (decide ((length bV+length [(getD ao (toNat ij) ([]:(List Int)))])*1<=4398046511104)) then
       (pA N ao og BX bz) (bV++[(getD ao (toNat ij) ([]:(List Int)))]) (wrap .i64 (ij+(1:Int)))
      else none
     else
      (pA N ao og BX bz) bV (wrap .i64 (ij+(1:Int))))
   else none
  else
   bz bV
def uJ (N:Nat) (a0:dG) (kf:(List (List Int))->Option aa):Option aa:=
 DG N a0 (λUv=>
  pA N Uv (length Uv:Int) N kf ([]:(List (List Int))) (0:Int))
def xj (N:Nat) (afz:ByteArray) (ar4:(List (List Int))) (ar5:Int) (aoP:Int) (ace:(List Int)) (aiy:Int):Nat->((List ByteArray)->Option aa)->(List ByteArray)->Int->Option aa
 |0,_,_,_=>none
 |atp+1,ad2,Zu,W9=>
  bif (decide (W9<aiy)) then
   bif (aD W9 (length ace)) then
    aM N (getD ace (toNat W9) (0:Int)) (λaiz=>
     bif (decide ((length Zu+length [aiz])*1<=4398046511104)) then
      (xj N afz ar4 ar5 aoP ace aiy atp ad2) (Zu++[aiz]) (wrap .i64 (W9+(1:Int)))
     else none)
   else none
  else
   ad2 Zu
def xk (N:Nat) (dM:(List (List Int))) (Hr:Int):Nat->(ByteArray->Option aa)->ByteArray->Int->Option aa
 |0,_,_,_=>none
 |po+1,ad3,bg,b9=>
  bif (decide (b9<Hr)) then
   bif (aD b9 (length dM)) then
    xj N bg dM Hr b9 (getD dM (toNat b9) ([]:(List Int))) (length (getD dM (toNat b9) ([]:(List Int))):Int) N (λar6=>
     ak5 N ar6 aqD (λXa=>
      bif (decide (ByteArray.size adO+ByteArray.size Xa<=9223372036854775807)) then
       bif (decide (ByteArray.size (adO++Xa)+ByteArray.size ahI<=9223372036854775807)) then
        bif (decide (ByteArray.size bg+ByteArray.size ((adO++Xa)++ahI)<=9223372036854775807)) then
         (xk N dM Hr po ad3) (bg++((adO++Xa)++ahI)) (wrap .i64 (b9+(1:Int)))
        else none
       else none
      else none)) ([]:(List ByteArray)) (0:Int)
   else none
  else
   ad3 bg
def xM (N:Nat) (a0:(List (List Int))) (kf:ByteArray->Option aa):Option aa:=
 bif ((length a0:Int)==(0:Int)) then
  kf oc
 else
  xk N a0 (length a0:Int) N kf EY (0:Int)
def MG (self:dG->Int->Int->(List (List Int×Bool))->(Bool->(List (List Int×Bool))->Option aa)->Option aa) (ad4:Int) (aiA:dG) (am7:(List Int)) (aiB:Bool) (acf:Bool) (aiC:(List Int)) (aiD:Int) (aiE:Int) (Hu:(List Int)) (acg:Int):Nat->((List (List Int×Bool))->Bool->Option aa)->(List (List Int×Bool))->Int->Option aa
 |0,_,_,_=>none
 |akZ+1,MH,aiF,Fs=>
  bif (decide (Fs<acg)) then
   bif (aD Fs (length Hu)) then
    bif (decide (0<=(getD Hu (toNat Fs) (0:Int)))) then
     bif ((wrap .i64 (BitVec.toNat (BitVec.ofInt (IntKind.bits .i64) (Int.fdiv ad4 (2^(min (toNat (getD Hu (toNat Fs) (0:Int))) (IntKind.bits .i64))))&&&BitVec.ofInt (IntKind.bits .i64) (1:Int))))==(0:Int)) then
      bif (decide (0<=(getD Hu (toNat Fs) (0:Int)))) then
       self aiA (wrap .i64 (BitVec.toNat (BitVec.ofInt (IntKind.bits .i64) ad4|||BitVec.ofInt (IntKind.bits .i64) (wrap .i64 ((1:Int)*2^(min (toNat (getD Hu (toNat Fs) (0:Int))) (IntKind.bits .i64))))))) (getD Hu (toNat Fs) (0:Int)) aiF (λaoQ am8=>
        bif aoQ then
         MH am8 true
        else
         (MG self ad4 aiA am7 aiB acf aiC aiD aiE Hu acg akZ MH) am8 (wrap .i64 (Fs+(1:Int))))
      else none
     else
      (MG self ad4 aiA am7 aiB acf aiC aiD aiE Hu acg akZ MH) aiF (wrap .i64 (Fs+(1:Int)))
    else none
   else none
  else
   MH aiF acf
def Xb (N:Nat) (self:dG->Int->Int->(List (List Int×Bool))->(Bool->(List (List Int×Bool))->Option aa)->Option aa) (aj:Int) (Uw:dG) (Ft:(List Int)) (DE:Bool) (ad5:(List Int)) (aiG:Int):Nat->((List (List Int×Bool))->Bool->Option aa)->(List (List Int×Bool))->Int->Option aa
 |0,_,_,_=>none
 |Zl+1,Xc,nQ,ZE=>
  bif (decide (ZE<aiG)) then
   bif (aD ZE (length ad5)) then
    qD N Uw (getD ad5 (toNat ZE) (0:Int)) (λOP=>
     MG self aj Uw Ft DE false ad5 aiG ZE OP (length OP:Int) N (λam9 aoR=>
      bif (!aoR) then
       Xc am9 false
      else
       (Xb N self aj Uw Ft DE ad5 aiG Zl Xc) am9 (wrap .i64 (ZE+(1:Int)))) nQ (0:Int))
   else none
  else
   Xc nQ DE
def aoS (self:dG->Int->Int->(List (List Int×Bool))->(Bool->(List (List Int×Bool))->Option aa)->Option aa) (N:Nat) (a0:dG) (a1:Int) (a2:Int) (a3:(List (List Int×Bool))) (kf:Bool->(List (List Int×Bool))->Option aa):Option aa:=
 bif (Qg [a1,a2]) then
  bif (Option.isSome (qW a3 [a1,a2])) then
   kf (Option.getD (qW a3 [a1,a2]) false) a3
  else
   qD N a0 a2 (λam'=>
    Xb N self a1 a0 [a1,a2] true am' (length am':Int) N (λar7 aiH=>
     bif (Qg [a1,a2]) then
      kf aiH (tP ar7 [a1,a2] aiH)
     else none) a3 (0:Int))
 else none
def aiI:Nat->dG->Int->Int->(List (List Int×Bool))->(Bool->(List (List Int×Bool))->Option aa)->Option aa
 |0,_,_,_,_,_=>none
 |N+1,a0,a1,a2,a3,kf=>aoS (aiI N) N a0 a1 a2 a3 kf
def P6 (N:Nat) (a0:dG) (a1:Int) (kf:Bool->Option aa):Option aa:=
 lF N a0 (λaoc=>
  bif aoc then
   qC N a0 a1 (λVI=>
    bif VI then
     bif (decide (0<=a1)) then
      aiI N a0 (wrap .i64 ((1:Int)*2^(min (toNat a1) (IntKind.bits .i64)))) a1 ([]:(List (List Int×Bool))) (λSm atM=>
       kf Sm)
     else none
    else
     kf false)
  else
   kf false)
def eV (N:Nat) (Sr:QT) (Mu:(List QT)) (GB:Int) (ad6:Int) (B3:(List Int)) (aiJ:Int):Nat->(Option aa)->(Bool->Option aa)->Int->Option aa
 |0,_,_,_=>none
 |aoT+1,IE,IF,Xd=>
  bif (decide (Xd<aiJ)) then
   bif (aD Xd (length B3)) then
    kM N Sr.2.2.2.2.2 (getD B3 (toNat Xd) (0:Int)) (λach=>
     bif (decide (ach>(1:Int))) then
      IF false
     else
      (eV N Sr Mu GB ad6 B3 aiJ aoT IE IF) (wrap .i64 (Xd+(1:Int))))
   else none
  else
   IE
def gM (N:Nat) (Fu:(List QT)) (AE:Int):Nat->(Option aa)->(Bool->Option aa)->Int->Option aa
 |0,_,_,_=>none
 |Iu+1,IG,IH,cE=>
  bif (decide (cE<AE)) then
   bif (aD cE (length Fu)) then
    eV N (getD Fu (toNat cE) an) Fu AE cE (getD Fu (toNat cE) an).2.2.2.2.2 (length (getD Fu (toNat cE) an).2.2.2.2.2:Int) N ((gM N Fu AE Iu IG IH) (wrap .i64 (cE+(1:Int)))) IH (0:Int)
   else none
  else
   IG
def uK (N:Nat) (a0:QC) (kf:Bool->Option aa):Option aa:=
 gM N a0.1 (length a0.1:Int) N (kf true) kf (0:Int)
def eO (N:Nat) (cO:QC) (bR:(List bE)) (q8:Int):Nat->(Option aa)->(Bool->Option aa)->Int->Option aa
 |0,_,_,_=>none
 |po+1,Fp,uG,iX=>
  bif (decide (iX<q8)) then
   bif (aD iX (length bR)) then
    bif (decide (iX≥(length cO.2.2.2.1:Int))) then
     uG false
    else
     bif (aD iX (length cO.2.2.2.1)) then
      j8 N cO.2.1 (getD cO.2.2.2.1 (toNat iX) (0:Int)) (λSI=>
       bif (decide (SI<(0:Int))) then
        uG false
       else
        bif (aD SI (length cO.2.1)) then
         kn N cO.1 (getD cO.2.1 (toNat SI) dY) (getD bR (toNat iX) ff) (λMp=>
          bif (!Mp) then
           uG false
          else
           (eO N cO bR q8 po Fp uG) (wrap .i64 (iX+(1:Int))))
        else none)
     else none
   else none
  else
   Fp
def qE (N:Nat) (a0:QC) (kf:Bool->Option aa):Option aa:=
 eO N a0 a0.2.2.1 (length a0.2.2.1:Int) N (kf true) kf (0:Int)
def eW (aj:QC) (lG:(List QL)) (B2:Int):Nat->(Int->Option aa)->Int->Int->Option aa
 |0,_,_,_=>none
 |Mt+1,bz,nQ,ya=>
  bif (decide (ya<B2)) then
   bif (aD ya (length lG)) then
    bif ((getD lG (toNat ya) Od).2.1==(4:Int)) then
     (eW aj lG B2 Mt bz) (wrap .i64 (nQ - (1:Int))) (wrap .i64 (ya+(1:Int)))
    else
     (eW aj lG B2 Mt bz) nQ (wrap .i64 (ya+(1:Int)))
   else none
  else
   bz nQ
def uL (N:Nat) (a0:QC) (kf:Bool->Option aa):Option aa:=
 iS N a0 (λic=>
  eW a0 a0.2.2.2.2.2.1 (length a0.2.2.2.2.2.1:Int) N (λP7=>
   k8 N a0.2.2.2.2.2.1 (λaoU=>
    bif aoU then
     aw N a0.2.2.2.2.2.2 (0:Int) (1000:Int) (λaoV=>
      bif aoV then
       kf (P7==(0:Int))
      else
       kf false)
    else
     kf false)) (wrap .i64 ((wrap .i64 (a0.2.2.2.2.2.2+(length a0.2.2.2.2.1:Int))) - (length ic:Int))) (0:Int))
def gN (cO:QC) (Ft:(List QT)) (ana:Int):Nat->(Int->Int->Int->Option aa)->Int->Int->Int->Int->Option aa
 |0,_,_,_,_,_=>none
 |n_8+1,bz,ao,bV,mn,VJ=>
  bif (decide (VJ<ana)) then
   bif (aD VJ (length Ft)) then
    (gN cO Ft ana n_8 bz) (wrap .i64 (ao+(getD Ft (toNat VJ) an).2.2.1)) (wrap .i64 (bV+(getD Ft (toNat VJ) an).2.2.2.2.1)) (wrap .i64 (mn+(length (getD Ft (toNat VJ) an).2.2.2.2.2:Int))) (wrap .i64 (VJ+(1:Int)))
   else none
  else
   bz ao bV mn
def uM (N:Nat) (a0:QC) (kf:Bool->Option aa):Option aa:=
 gN a0 a0.1 (length a0.1:Int) N (λP7 ar8 adX=>
  cK N a0.1 (λaoW=>
   bif aoW then
    bif ((wrap .i64 ((2:Int)*P7))==adX) then
     kf ((wrap .i64 ((2:Int)*ar8))==adX)
    else
     kf false
   else
    kf false)) (0:Int) (0:Int) (0:Int) (0:Int)
def uN (N:Nat) (a0:QC) (kf:ByteArray->Option aa):Option aa:=
 uK N a0 (λGA=>
  bif (!GA) then
   kf afu
  else
   qE N a0 (λabO=>
    bif (!abO) then
     kf WQ
    else
     uL N a0 (λZp=>
      bif (!Zp) then
       kf afv
      else
       uM N a0 (λar9=>
        bif (!ar9) then
         kf aqE
        else
         lD N a0 (λZC=>
          bif (!ZC) then
           kf ue
          else
           kf EY)))))
def fb (N:Nat) (a0:QC) (a1:ByteArray) (a2:(List Int)) (kf:ByteArray->Option aa):Option aa:=
 bif (ByteArray.toList a1==ByteArray.toList lW) then
  iR N a0.1 (λic=>
   br N ic kf)
 else
  bif (ByteArray.toList a1==ByteArray.toList xC) then
   kr N a0.1 kf
  else
   bif (ByteArray.toList a1==ByteArray.toList xD) then
    ku N a0.2.2.1 a0.2.2.2.1 kf
   else
    bif (ByteArray.toList a1==ByteArray.toList oP) then
     iS N a0 (λah'=>
      br N ah' kf)
    else
     bif (ByteArray.toList a1==ByteArray.toList ue) then
      ld N a0 kf
     else
      bif (ByteArray.toList a1==ByteArray.toList jw) then
       cd N (λSv=>
        JZ N Sv (λar'=>
         br N ar' kf))
      else
       bif (ByteArray.toList a1==ByteArray.toList fS) then
        cd N (λW4=>
         uJ N W4 (λaoX=>
          xM N aoX kf))
       else
        bif (ByteArray.toList a1==ByteArray.toList PX) then
         bif (aD (0:Int) (length a2)) then
          cd N (λaoY=>
           P6 N aoY (getD a2 (toNat (0:Int)) (0:Int)) (λaoZ=>
            KP N aoZ kf))
         else none
        else
         uN N a0 (λaiK=>
          bif (!(ByteArray.toList aiK==ByteArray.toList EY)) then
           kf aiK
          else
           kf Y9)
def p9 (N:Nat) (anb:QC) (asa:QC) (asb:(List ByteArray)) (aci:(List ByteArray)) (aiL:Int):Nat->((List Int)->Option aa)->(QC->ByteArray->Option aa)->(List Int)->Int->Option aa
 |0,_,_,_,_=>none
 |atq+1,ZF,ZG,aiM,Xe=>
  bif (decide (Xe<aiL)) then
   bif (aD Xe (length aci)) then
    JV N (getD aci (toNat Xe) ByteArray.empty) (λaiN ao0=>
     bif (!ao0) then
      aF N anb (λao1=>
       ZG ao1 oZ)
     else
      bif (decide ((length aiM+length [aiN])*1<=4398046511104)) then
       (p9 N anb asa asb aci aiL atq ZF ZG) (aiM++[aiN]) (wrap .i64 (Xe+(1:Int)))
      else none)
   else none
  else
   ZF aiM
def mD (aj:ByteArray) (hJ:QC) (Uw:QC) (ya:(List ByteArray)) (AI:Int):Nat->((List ByteArray)->Option aa)->(List ByteArray)->Int->Option aa
 |0,_,_,_=>none
 |n_9+1,pv,sD,SJ=>
  bif (decide (SJ<AI)) then
   bif (aD SJ (length ya)) then
    bif (!(ByteArray.toList (getD ya (toNat SJ) ByteArray.empty)==ByteArray.toList EY)) then
     bif (decide ((length sD+length [(getD ya (toNat SJ) ByteArray.empty)])*1<=4398046511104)) then
      (mD aj hJ Uw ya AI n_9 pv) (sD++[(getD ya (toNat SJ) ByteArray.empty)]) (wrap .i64 (SJ+(1:Int)))
     else none
    else
     (mD aj hJ Uw ya AI n_9 pv) sD (wrap .i64 (SJ+(1:Int)))
   else none
  else
   pv sD
def bA (N:Nat) (a0:QC) (a1:ByteArray) (kf:QC->ByteArray->Option aa):Option aa:=
 S15 N a1 BT (λZi=>
  mD a1 a0 (([]:(List QT)),(([]:(List QJ)),(([]:(List bE)),(([]:(List Int)),(([]:(List QB)),(([]:(List QL)),(0:Int))))))) Zi (length Zi:Int) N (λqL=>
   bif (decide ((ByteArray.size a1:Int)>(200:Int))) then
    aF N a0 (λao2=>
     kf ao2 oZ)
   else
    bif ((length qL:Int)==(0:Int)) then
     aF N a0 (λao3=>
      kf ao3 oZ)
    else
     bif (aD (0:Int) (length qL)) then
      bif (ByteArray.toList (getD qL (toNat (0:Int)) ByteArray.empty)==ByteArray.toList Se) then
       aF N a0 (λao4=>
        xg N qL (kf ao4))
      else
       bif (aD (0:Int) (length qL)) then
        bif (ByteArray.toList (getD qL (toNat (0:Int)) ByteArray.empty)==ByteArray.toList ahG) then
         aF N a0 (λao5=>
          xg N qL (kf ao5))
        else
         bif (aD (0:Int) (length qL)) then
          Su N (getD qL (toNat (0:Int)) ByteArray.empty) (λao6=>
           bif (ao6 != (wrap .i64 ((length qL:Int) - (1:Int)))) then
            aF N a0 (λao7=>
             kf ao7 oZ)
           else
            bif (decide ((0:Int)<=(1:Int))&&decide ((1:Int)<=(length qL:Int))&&decide ((length qL:Int)<=(length qL:Int))) then
             p9 N a0 (([]:(List QT)),(([]:(List QJ)),(([]:(List bE)),(([]:(List Int)),(([]:(List QB)),(([]:(List QL)),(0:Int))))))) qL (List.drop (toNat (1:Int)) (List.take (toNat (length qL:Int)) qL)) (length (List.drop (toNat (1:Int)) (List.take (toNat (length qL:Int)) qL)):Int) N (λanc=>
              bif (aD (0:Int) (length qL)) then
               ME N a0 (getD qL (toNat (0:Int)) ByteArray.empty) anc (λao8 ao9 ao'=>
                bif (!ao') then
                 bif (aD (0:Int) (length qL)) then
                  aF N a0 (λak6=>
                   fb N a0 (getD qL (toNat (0:Int)) ByteArray.empty) anc (kf ak6))
                 else none
                else
                 bif (!ao9) then
                  aF N a0 (λak7=>
                   kf ak7 WN)
                 else
                  kf ao8 Y9)
              else none) kf ([]:(List Int)) (0:Int)
            else none)
         else none
       else none
     else none) ([]:(List ByteArray)) (0:Int))
def pB (N:Nat) (a0:QT) (a1:QT) (kf:Bool->Option aa):Option aa:=
 bif (a0.1==a1.1) then
  bif (a0.2.1==a1.2.1) then
   bif (a0.2.2.1==a1.2.2.1) then
    bif (a0.2.2.2.1==a1.2.2.2.1) then
     bif (a0.2.2.2.2.1==a1.2.2.2.2.1) then
      gg N a0.2.2.2.2.2 a1.2.2.2.2.2 kf
     else
      kf false
    else
     kf false
   else
    kf false
  else
   kf false
 else
  kf false
def aP (N:Nat) (cO:(List QT)) (lH:(List QT)) (ZH:Int):Nat->(Option aa)->(Bool->Option aa)->Int->Option aa
 |0,_,_,_=>none
 |po+1,fi,kN,lG=>
  bif (decide (lG<ZH)) then
   bif (aD lG (length lH)) then
    bif (aD lG (length cO)) then
     pB N (getD lH (toNat lG) an) (getD cO (toNat lG) an) (λSK=>
      bif (!SK) then
       kN false
      else
       (aP N cO lH ZH po fi kN) (wrap .i64 (lG+(1:Int))))
    else none
   else none
  else
   fi
def bX (N:Nat) (a0:(List QT)) (a1:(List QT)) (kf:Bool->Option aa):Option aa:=
 bif ((length a0:Int) != (length a1:Int)) then
  kf false
 else
  aP N a1 a0 (length a0:Int) N (kf true) kf (0:Int)
def pC (N:Nat) (a0:QJ) (a1:QJ) (kf:Bool->Option aa):Option aa:=
 bif (a0.1==a1.1) then
  bif (a0.2.1==a1.2.1) then
   gg N a0.2.2 a1.2.2 kf
  else
   kf false
 else
  kf false
def aK (N:Nat) (cO:(List QJ)) (lH:(List QJ)) (ZH:Int):Nat->(Option aa)->(Bool->Option aa)->Int->Option aa
 |0,_,_,_=>none
 |po+1,fi,kN,lG=>
  bif (decide (lG<ZH)) then
   bif (aD lG (length lH)) then
    bif (aD lG (length cO)) then
     pC N (getD lH (toNat lG) dY) (getD cO (toNat lG) dY) (λSK=>
      bif (!SK) then
       kN false
      else
       (aK N cO lH ZH po fi kN) (wrap .i64 (lG+(1:Int))))
    else none
   else none
  else
   fi
def bS (N:Nat) (a0:(List QJ)) (a1:(List QJ)) (kf:Bool->Option aa):Option aa:=
 bif ((length a0:Int) != (length a1:Int)) then
  kf false
 else
  aK N a1 a0 (length a0:Int) N (kf true) kf (0:Int)
def dO (ae:(List bE)) (aj:(List bE)) (gu:Int):Nat->(Option aa)->(Bool->Option aa)->Int->Option aa
 |0,_,_,_=>none
 |po+1,iK,iL,cD=>
  bif (decide (cD<gu)) then
   bif (aD cD (length ae)) then
    bif (aD cD (length aj)) then
     bif (!((decide (((getD ae (toNat cD) ff).1:Int)=(getD aj (toNat cD) ff).1))&&(decide (((getD ae (toNat cD) ff).2:Int)=(getD aj (toNat cD) ff).2)))) then
      iL false
     else
      (dO ae aj gu po iK iL) (wrap .i64 (cD+(1:Int)))
    else none
   else none
  else
   iK
def pD (N:Nat) (a0:(List bE)) (a1:(List bE)) (kf:Bool->Option aa):Option aa:=
 bif ((length a0:Int) != (length a1:Int)) then
  kf false
 else
  dO a0 a1 (length a0:Int) N (kf true) kf (0:Int)
def cT (ae:(List QB)) (aj:(List QB)) (gu:Int):Nat->(Option aa)->(Bool->Option aa)->Int->Option aa
 |0,_,_,_=>none
 |po+1,iK,iL,cD=>
  bif (decide (cD<gu)) then
   bif (aD cD (length ae)) then
    bif (aD cD (length aj)) then
     bif (!((decide (((getD ae (toNat cD) oO).1:Int)=(getD aj (toNat cD) oO).1))&&((decide (((getD ae (toNat cD) oO).2.1:Int)=(getD aj (toNat cD) oO).2.1))&&(decide (((getD ae (toNat cD) oO).2.2:Int)=(getD aj (toNat cD) oO).2.2))))) then
      iL false
     else
      (cT ae aj gu po iK iL) (wrap .i64 (cD+(1:Int)))
    else none
   else none
  else
   iK
def mE (N:Nat) (a0:(List QB)) (a1:(List QB)) (kf:Bool->Option aa):Option aa:=
 bif ((length a0:Int) != (length a1:Int)) then
  kf false
 else
  cT a0 a1 (length a0:Int) N (kf true) kf (0:Int)
def dP (ae:(List QL)) (aj:(List QL)) (gu:Int):Nat->(Option aa)->(Bool->Option aa)->Int->Option aa
 |0,_,_,_=>none
 |po+1,iK,iL,cD=>
  bif (decide (cD<gu)) then
   bif (aD cD (length ae)) then
    bif (aD cD (length aj)) then
     bif (!((decide (((getD ae (toNat cD) Od).1:Int)=(getD aj (toNat cD) Od).1))&&((decide (((getD ae (toNat cD) Od).2.1:Int)=(getD aj (toNat cD) Od).2.1))&&((decide (((getD ae (toNat cD) Od).2.2.1:Int)=(getD aj (toNat cD) Od).2.2.1))&&(decide (((getD ae (toNat cD) Od).2.2.2:Int)=(getD aj (toNat cD) Od).2.2.2)))))) then
      iL false
     else
      (dP ae aj gu po iK iL) (wrap .i64 (cD+(1:Int)))
    else none
   else none
  else
   iK
def pE (N:Nat) (a0:(List QL)) (a1:(List QL)) (kf:Bool->Option aa):Option aa:=
 bif ((length a0:Int) != (length a1:Int)) then
  kf false
 else
  dP a0 a1 (length a0:Int) N (kf true) kf (0:Int)
def fv (N:Nat) (a0:QC) (a1:QC) (kf:Bool->Option aa):Option aa:=
 bif (a0.2.2.2.2.2.2==a1.2.2.2.2.2.2) then
  bX N a0.1 a1.1 (λasc=>
   bif asc then
    bS N a0.2.1 a1.2.1 (λasd=>
     bif asd then
      pD N a0.2.2.1 a1.2.2.1 (λase=>
       bif ase then
        gg N a0.2.2.2.1 a1.2.2.2.1 (λaip=>
         bif aip then
          mE N a0.2.2.2.2.1 a1.2.2.2.2.1 (λZn=>
           bif Zn then
            pE N a0.2.2.2.2.2.1 a1.2.2.2.2.2.1 kf
           else
            kf false)
         else
          kf false)
       else
        kf false)
     else
      kf false)
   else
    kf false)
 else
  kf false
def uO (N:Nat) (cD:(List (List Int))) (gF:Int):Nat->(ByteArray->Option aa)->ByteArray->Int->Option aa
 |0,_,_,_=>none
 |Mt+1,gI,nQ,uI=>
  bif (decide (uI<gF)) then
   bif (aD uI (length cD)) then
    bif (aD (0:Int) (length (getD cD (toNat uI) ([]:(List Int))))) then
     bif (aD (1:Int) (length (getD cD (toNat uI) ([]:(List Int))))) then
      aM N (getD (getD cD (toNat uI) ([]:(List Int))) (toNat (0:Int)) (0:Int)) (λZI=>
       bif (decide (ByteArray.size BT+ByteArray.size ZI<=9223372036854775807)) then
        bif (decide (ByteArray.size (BT++ZI)+ByteArray.size adP<=9223372036854775807)) then
         aM N (getD (getD cD (toNat uI) ([]:(List Int))) (toNat (1:Int)) (0:Int)) (λpy=>
          bif (decide (ByteArray.size ((BT++ZI)++adP)+ByteArray.size py<=9223372036854775807)) then
           bif (decide (ByteArray.size nQ+ByteArray.size (((BT++ZI)++adP)++py)<=9223372036854775807)) then
            (uO N cD gF Mt gI) (nQ++(((BT++ZI)++adP)++py)) (wrap .i64 (uI+(1:Int)))
           else none
          else none)
        else none
       else none)
     else none
    else none
   else none
  else
   gI nQ
def mW (N:Nat) (a0:dG) (kf:ByteArray->Option aa):Option aa:=
 lF N a0 (λx8=>
  bif (!x8) then
   kf EY
  else
   aM N a0.1 (λaiu=>
    uO N a0.2 (length a0.2:Int) N kf aiu (0:Int)))
def yb (N:Nat) (a0:jX) (a1:Int) (kf:Bool->jX->Option aa):Option aa:=
 b7 N a0 a1 (λx8 abL=>
  kf (x8==(0:Int)) abL)
def dz (N:Nat):Nat->(ByteArray->Option aa)->jX->ByteArray->Int->Option aa
 |0,_,_,_,_=>none
 |ak0+1,ZJ,asf,ad7,ane=>
  bif (decide (ane>(0:Int))) then
   zY N asf (λacj asg=>
    bif (decide (ByteArray.size ad7+ByteArray.size acj<=9223372036854775807)) then
     bif (decide (ByteArray.size (ad7++acj)+ByteArray.size PZ<=9223372036854775807)) then
      (dz N ak0 ZJ) asg ((ad7++acj)++PZ) (wrap .i64 (ane - (1:Int)))
     else none
    else none)
  else
   ZJ ad7
def j9 (N:Nat) (kf:ByteArray->Option aa) (P7:jX) (ash:ByteArray):Option aa:=
 b7 N P7 (10:Int) (λapa ah3=>
  dz N N kf ah3 ash apa)
def ef :Nat->(ByteArray->Option aa)->ByteArray->Int->Option aa
 |0,_,_,_=>none
 |BX+1,Fh,Uw,asi=>
  bif (decide (asi<(61:Int))) then
   bif (decide (ByteArray.size Uw+ByteArray.size xE<=9223372036854775807)) then
    (ef BX Fh) (Uw++xE) (wrap .i64 (asi+(1:Int)))
   else none
  else
   Fh Uw
def de (N:Nat) (a0:(List Int)) (kf:ByteArray->Option aa):Option aa:=
 EZ N a0 (λUv=>
  yb N Uv (20:Int) (λVI atr=>
   bif VI then
    ef N kf EY (0:Int)
   else
    yb N atr (4:Int) (λapb P7=>
     bif (!apb) then
      j9 N kf P7 bD
     else
      j9 N kf P7 EY)))
def fP (N:Nat) (B4:(List ByteArray)) (anf:Int):Nat->((List ByteArray)->Option aa)->QC->(List ByteArray)->Int->Option aa
 |0,_,_,_,_=>none
 |n_9+1,II,mn,sD,ad8=>
  bif (decide (ad8<anf)) then
   bif (aD ad8 (length B4)) then
    bA N mn (getD B4 (toNat ad8) ByteArray.empty) (λack SL=>
     bif (decide ((length sD+length [SL])*1<=4398046511104)) then
      (fP N B4 anf n_9 II) ack (sD++[SL]) (wrap .i64 (ad8+(1:Int)))
     else none)
   else none
  else
   II sD
def kP (N:Nat) (kf:(List ByteArray)->Bool->Option aa) (apc:(List ByteArray)):Option aa:=
 bif (decide ((length apc:Int)>(60:Int))) then
  kf ([]:(List ByteArray)) false
 else
  zZ N (λaiq=>
   fP N apc (length apc:Int) N (λasj=>
    kf asj true) aiq ([]:(List ByteArray)) (0:Int))
def jG (N:Nat) (a0:ByteArray) (kf:(List ByteArray)->Bool->Option aa):Option aa:=
 S15 N a0 PZ (λcI=>
  bif (aD (wrap .i64 ((length cI:Int) - (1:Int))) (length cI)) then
   bif (ByteArray.toList (getD cI (toNat (wrap .i64 ((length cI:Int) - (1:Int)))) ByteArray.empty)==ByteArray.toList EY) then
    bif (decide ((0:Int)<=(0:Int))&&decide ((0:Int)<=(wrap .i64 ((length cI:Int) - (1:Int))))&&decide ((wrap .i64 ((length cI:Int) - (1:Int)))<=(length cI:Int))) then
     kP N kf (List.drop (toNat (0:Int)) (List.take (toNat (wrap .i64 ((length cI:Int) - (1:Int)))) cI))
    else none
   else
    kP N kf cI
  else none)
abbrev aiO:Type:=Nat->(List Int)->(Bool->Option aa)->Option aa
abbrev aiP:Type:=Nat->(List Int)->(QC->ByteArray->Option aa)->Option aa
abbrev aiQ:Type:=Nat->QC->ByteArray->(QC->ByteArray->Option aa)->Option aa
abbrev aiR:Type:=Nat->QC->QC->(Bool->Option aa)->Option aa
abbrev aiS:Type:=Nat->(dG->Option aa)->Option aa
abbrev aiT:Type:=Nat->dG->(ByteArray->Option aa)->Option aa
abbrev aiU:Type:=Nat->(List Int)->(ByteArray->Option aa)->Option aa
abbrev aiV:Type:=Nat->ByteArray->((List ByteArray)->Bool->Option aa)->Option aa
abbrev aiW:Type:=Nat->(List Int)->QC->(List ByteArray)->Int->Nat->(Option aa)->(Bool->Option aa)->Int->Option aa
abbrev aiX:Type:=ByteArray->(List ByteArray)->Bool->Nat->(Int->Option aa)->Int->Int->Option aa
def Fv (SM:ByteArray) (aiY:(List ByteArray)) (aiZ:Bool):Nat->(Int->Option aa)->Int->Int->Option aa
 |0,_,_,_=>none
 |asl+1,SN,acm,SO=>
  bif (decide (SO<(ByteArray.size SM:Int))) then
   bif (aD SO (ByteArray.size SM)) then
    bif ((bt SM SO)==(10:Int)) then
     (Fv SM aiY aiZ asl SN) (wrap .i64 (acm+(1:Int))) (wrap .i64 (SO+(1:Int)))
    else
     (Fv SM aiY aiZ asl SN) acm (wrap .i64 (SO+(1:Int)))
   else none
  else
   SN acm
def J1 (N:Nat) (ak8:(List Int)) (AA:QC) (B5:(List ByteArray)) (ai0:Int):Nat->(Option aa)->(Bool->Option aa)->Int->Option aa
 |0,_,_,_=>none
 |aoT+1,IJ,B6,Xf=>
  bif (decide (Xf<ai0)) then
   bif (aD Xf (length B5)) then
    bA N AA (getD B5 (toNat Xf) ByteArray.empty) (λacn aco=>
     fv N AA acn (λacp=>
      bif (!acp) then
       B6 false
      else
       bif (ByteArray.toList aco==ByteArray.toList EY) then
        B6 false
       else
        (J1 N ak8 AA B5 ai0 aoT IJ B6) (wrap .i64 (Xf+(1:Int)))))
   else none
  else
   IJ
def ak9 (g0:aiO) (g1:aiP) (g2:aiQ) (g3:aiR) (g4:aiS) (g5:aiT) (g6:aiU) (g7:aiV) (g8:aiW) (g9:aiX) (N:Nat) (a0:(List Int)) (kf:Bool->Option aa):Option aa:=
 g0 N a0 (λZb=>
  bif Zb then
   kf true
  else
   g1 N a0 (λang asm=>
    g2 N ang asm (λHl ZD=>
     bif (ByteArray.toList ZD==ByteArray.toList oZ) then
      g3 N Hl ang (λasn=>
       bif (!asn) then
        kf false
       else
        bif (ByteArray.toList ZD==ByteArray.toList EY) then
         kf false
        else
         g8 N a0 Hl [lW,xC,xD,oP,ue,qx,jw,fS,lX,cB,EY] (length [lW,xC,xD,oP,ue,qx,jw,fS,lX,cB,EY]:Int) N (
          g4 N (λSP=>
           g5 N SP (λSQ=>
            bif (!(ByteArray.toList SQ==ByteArray.toList aR)) then
             kf false
            else
             g6 N a0 (λHv=>
              g7 N Hv (λuP uQ=>
               g9 Hv uP uQ N (λAN=>
                bif uQ then
                 bif ((length uP:Int)==AN) then
                  kf true
                 else
                  bif (!uQ) then
                   bif ((length uP:Int)==(0:Int)) then
                    kf (decide (AN>(60:Int)))
                   else
                    kf false
                  else
                   kf false
                else
                 bif (!uQ) then
                  bif ((length uP:Int)==(0:Int)) then
                   kf (decide (AN>(60:Int)))
                  else
                   kf false
                 else
                  kf false) (0:Int) (0:Int)))))) kf (0:Int))
     else
      bif (ByteArray.toList ZD==ByteArray.toList EY) then
       kf false
      else
       g8 N a0 Hl [lW,xC,xD,oP,ue,qx,jw,fS,lX,cB,EY] (length [lW,xC,xD,oP,ue,qx,jw,fS,lX,cB,EY]:Int) N (
        g4 N (λSP=>
         g5 N SP (λSQ=>
          bif (!(ByteArray.toList SQ==ByteArray.toList aR)) then
           kf false
          else
           g6 N a0 (λHv=>
            g7 N Hv (λuP uQ=>
             g9 Hv uP uQ N (λAN=>
              bif uQ then
               bif ((length uP:Int)==AN) then
                kf true
               else
                bif (!uQ) then
                 bif ((length uP:Int)==(0:Int)) then
                  kf (decide (AN>(60:Int)))
                 else
                  kf false
                else
                 kf false
              else
               bif (!uQ) then
                bif ((length uP:Int)==(0:Int)) then
                 kf (decide (AN>(60:Int)))
                else
                 kf false
               else
                kf false) (0:Int) (0:Int)))))) kf (0:Int))))
def L3 (N:Nat) (a0:(List Int)) (kf:Bool->Option aa):Option aa:=ak9 Dn iW bA fv cd mW de jG J1 Fv N a0 kf
end Go.Pv.R
