/- What the functions compute, as plain functions. -/
import Derived.Test.YtcpakhaogbempaaGreatPv4
namespace Go.Pv.R
set_option linter.unusedVariables false
set_option linter.unusedSimpArgs false
abbrev jL:Ty:=(.pair (.int .i64) (.pair (.int .i64) (.sl (.int .i64))))
abbrev QJ:Type:=(Int×(Int×(List Int)))
def cY:QJ:=((0:Int),((0:Int),([]:(List Int))))
abbrev dC:Ty:=(.pair (.int .i64) (.pair (.int .i64) (.pair (.int .i64) (.pair (.int .i64) (.pair (.int .i64) (.sl (.int .i64)))))))
abbrev QT:Type:=(Int×(Int×(Int×(Int×(Int×(List Int))))))
def aC:QT:=((0:Int),((0:Int),((0:Int),((0:Int),((0:Int),([]:(List Int)))))))
abbrev dQ:Ty:=(.pair (.int .i64) (.int .i64))
abbrev cg:Type:=(Int×Int)
def dz:cg:=((0:Int),(0:Int))
abbrev sD:Ty:=(.pair (.int .i64) (.pair (.int .i64) (.int .i64)))
abbrev QB:Type:=(Int×(Int×Int))
def gU:QB:=((0:Int),((0:Int),(0:Int)))
abbrev vq:Ty:=(.pair (.int .i64) (.pair (.int .i64) (.pair (.int .i64) (.int .i64))))
abbrev QL:Type:=(Int×(Int×(Int×Int)))
def Bm:QL:=((0:Int),((0:Int),((0:Int),(0:Int))))
abbrev eL:Ty:=(.pair (.sl (.int .u8)) (.pair (.int .i64) (.int .i64)))
abbrev gJ:Type:=((List Int)×(Int×Int))
abbrev bU:Ty:=(.pair (.sl dC) (.pair (.sl jL) (.pair (.sl dQ) (.pair (.sl (.int .i64)) (.pair (.sl sD) (.pair (.sl vq) (.int .i64)))))))
abbrev QC:Type:=((List QT)×((List QJ)×((List cg)×((List Int)×((List QB)×((List QL)×Int))))))
noncomputable def bq:ByteArray:=⟨#[0,1,2,2,3,3,3,3,4,4,4,4,4,4,4,4,5,5,5,5,5,5,5,5,5,5,5,5,5,5,5,5,6,6,6,6,6,6,6,6,6,6,6,6,6,6,6,6,6,6,6,6,6,6,6,6,6,6,6,6,6,6,6,6,7,7,7,7,7,7,7,7,7,7,7,7,7,7,7,7,7,7,7,7,7,7,7,7,7,7,7,7,7,7,7,7,7,7,7,7,7,7,7,7,7,7,7,7,7,7,7,7,7,7,7,7,7,7,7,7,7,7,7,7,7,7,7,7,8,8,8,8,8,8,8,8,8,8,8,8,8,8,8,8,8,8,8,8,8,8,8,8,8,8,8,8,8,8,8,8,8,8,8,8,8,8,8,8,8,8,8,8,8,8,8,8,8,8,8,8,8,8,8,8,8,8,8,8,8,8,8,8,8,8,8,8,8,8,8,8,8,8,8,8,8,8,8,8,8,8,8,8,8,8,8,8,8,8,8,8,8,8,8,8,8,8,8,8,8,8,8,8,8,8,8,8,8,8,8,8,8,8,8,8,8,8,8,8,8,8,8,8,8,8,8,8]⟩
noncomputable def L11 (N:Nat) (a0:(List Int)) (kf:Bool→Option ab):Option ab:=
 kf (decide ((List.length a0:Int)>(1048576:Int)))
noncomputable def Bn (af:(List Int)):Nat→(Int→Option ab)→Int→Int→Option ab
 |0,_,_,_=>none
 |Bo+1,iI,aR,cL=>
  bif (decide (cL<(List.length af:Int))) then
   bif (decide (cL<(4000:Int))) then
    bif (bC cL (List.length af)) then
     (Bn af Bo iI) (IntKind.wrap .i64 (BitVec.toNat (BitVec.ofInt (IntKind.bits .i64) (IntKind.wrap .i64 ((IntKind.wrap .i64 ((IntKind.wrap .i64 (aR*(137:Int)))+(IntKind.wrap .i64 (List.getD af (Int.toNat cL) (0:Int)))))+(11:Int)))&&&BitVec.ofInt (IntKind.bits .i64) (1073741823:Int)))) (IntKind.wrap .i64 (cL+(1:Int)))
    else none
   else
    iI aR
  else
   iI aR
noncomputable def S67 (N:Nat) (a0:(List Int)) (kf:gJ→Option ab):Option ab:=
 Bn a0 N (fun aw3=>
  kf (a0,((0:Int),aw3))) (IntKind.wrap .i64 ((193017:Int)+(List.length a0:Int))) (0:Int)
noncomputable def S68 (N:Nat) (kf:QC→Option ab):Option ab:=
 kf (([]:(List QT)),(([]:(List QJ)),(([]:(List cg)),(([]:(List Int)),(([]:(List QB)),(([]:(List QL)),(0:Int)))))))
noncomputable def SG (N:Nat) (a0:gJ) (kf:Int→gJ→Option ab):Option ab:=
 share (IntKind.wrap .i64 ((IntKind.wrap .i64 (a0.2.2*(6364136223846793005:Int)))+(1442695040888963407:Int))) (fun Zs=>
  bif (decide (0≤(33:Int))) then
   bif (decide (0≤(47:Int))) then
    bif (decide (a0.2.1<(List.length a0.1:Int))) then
     bif (bC a0.2.1 (List.length a0.1)) then
      kf (IntKind.wrap .i64 (BitVec.toNat (BitVec.ofInt (IntKind.bits .i64) (IntKind.wrap .i64 ((IntKind.wrap .i64 (BitVec.toNat (BitVec.ofInt (IntKind.bits .i64) (IntKind.wrap .i64 (BitVec.toNat (BitVec.ofInt (IntKind.bits .i64) (Int.fdiv Zs (2^(min (Int.toNat (33:Int)) (IntKind.bits .i64))))^^^BitVec.ofInt (IntKind.bits .i64) (Int.fdiv Zs (2^(min (Int.toNat (47:Int)) (IntKind.bits .i64)))))))&&&BitVec.ofInt (IntKind.bits .i64) (255:Int))))+(IntKind.wrap .i64 (List.getD a0.1 (Int.toNat a0.2.1) (0:Int)))))&&&BitVec.ofInt (IntKind.bits .i64) (255:Int)))) (a0.1,((IntKind.wrap .i64 (a0.2.1+(1:Int))),Zs))
     else none
    else
     kf (IntKind.wrap .i64 (BitVec.toNat (BitVec.ofInt (IntKind.bits .i64) (IntKind.wrap .i64 (BitVec.toNat (BitVec.ofInt (IntKind.bits .i64) (Int.fdiv Zs (2^(min (Int.toNat (33:Int)) (IntKind.bits .i64))))^^^BitVec.ofInt (IntKind.bits .i64) (Int.fdiv Zs (2^(min (Int.toNat (47:Int)) (IntKind.bits .i64)))))))&&&BitVec.ofInt (IntKind.bits .i64) (255:Int)))) (a0.1,(a0.2.1,Zs))
   else none
  else none)
noncomputable def ve (N:Nat) (a0:gJ) (a1:Int) (kf:Int→gJ→Option ab):Option ab:=
 bif (decide (a1≤(0:Int))) then
  kf (0:Int) a0
 else
  bif (decide (a1≤(256:Int))) then
   SG N a0 (fun fm adn=>
    bif (!decide (a1=0)) then
     kf (Int.tmod fm a1) adn
    else none)
  else
   SG N a0 (fun avb aw4=>
    SG N aw4 (fun ado aw5=>
     SG N aw5 (fun Oj ais=>
      bif (!decide (a1=0)) then
       kf (Int.tmod (IntKind.wrap .i64 ((IntKind.wrap .i64 ((IntKind.wrap .i64 (avb*(65536:Int)))+(IntKind.wrap .i64 (ado*(256:Int)))))+Oj)) a1) ais
      else none)))
noncomputable def ait (N:Nat) (a0:gJ) (a1:Int) (kf:Bool→gJ→Option ab):Option ab:=
 ve N a0 a1 (fun Bp adn=>
  kf (Bp==(0:Int)) adn)
noncomputable def Bq (N:Nat) (a0:gJ) (a1:(List Int)) (kf:Int→gJ→Option ab):Option ab:=
 ve N a0 (List.length a1:Int) (fun iZ adn=>
  bif (bC iZ (List.length a1)) then
   kf (List.getD a1 (Int.toNat iZ) (0:Int)) adn
  else none)
noncomputable def JF (N:Nat) (a0:(List Int)) (kf:(List Int)→Option ab):Option ab:=
 bif (List.isEmpty a0) then
  both (kf ([]:(List Int))) (
   bif (decide ((List.length ([]:(List Int))+List.length a0)*1≤4398046511104)) then
    kf (([]:(List Int))++a0)
   else none)
 else
  bif (decide ((List.length ([]:(List Int))+List.length a0)*1≤4398046511104)) then
   kf (([]:(List Int))++a0)
  else none
noncomputable def qH (N:Nat) (fQ:(List QT)) (o6:Int):Nat→((List QT)→Option ab)→(List QT)→Int→Option ab
 |0,_,_,_=>none
 |kX+1,cr,cj,ly=>
  bif (decide (ly<o6)) then
   bif (bC ly (List.length fQ)) then
    JF N (List.getD fQ (Int.toNat ly) aC).2.2.2.2.2 (fun th=>
     bif (decide ((List.length cj+List.length [((List.getD fQ (Int.toNat ly) aC).1,((List.getD fQ (Int.toNat ly) aC).2.1,((List.getD fQ (Int.toNat ly) aC).2.2.1,((List.getD fQ (Int.toNat ly) aC).2.2.2.1,((List.getD fQ (Int.toNat ly) aC).2.2.2.2.1,th)))))])*6≤4398046511104)) then
      (qH N fQ o6 kX cr) (cj++[((List.getD fQ (Int.toNat ly) aC).1,((List.getD fQ (Int.toNat ly) aC).2.1,((List.getD fQ (Int.toNat ly) aC).2.2.1,((List.getD fQ (Int.toNat ly) aC).2.2.2.1,((List.getD fQ (Int.toNat ly) aC).2.2.2.2.1,th)))))]) (IntKind.wrap .i64 (ly+(1:Int)))
     else none)
   else none
  else
   cr cj
noncomputable def SH (N:Nat) (a0:(List QT)) (kf:(List QT)→Option ab):Option ab:=
 qH N a0 (List.length a0:Int) N kf ([]:(List QT)) (0:Int)
noncomputable def qI (N:Nat) (fQ:(List QJ)) (o6:Int):Nat→((List QJ)→Option ab)→(List QJ)→Int→Option ab
 |0,_,_,_=>none
 |kX+1,cr,cj,ly=>
  bif (decide (ly<o6)) then
   bif (bC ly (List.length fQ)) then
    JF N (List.getD fQ (Int.toNat ly) cY).2.2 (fun th=>
     bif (decide ((List.length cj+List.length [((List.getD fQ (Int.toNat ly) cY).1,((List.getD fQ (Int.toNat ly) cY).2.1,th))])*3≤4398046511104)) then
      (qI N fQ o6 kX cr) (cj++[((List.getD fQ (Int.toNat ly) cY).1,((List.getD fQ (Int.toNat ly) cY).2.1,th))]) (IntKind.wrap .i64 (ly+(1:Int)))
     else none)
   else none
  else
   cr cj
noncomputable def aiu (N:Nat) (a0:(List QJ)) (kf:(List QJ)→Option ab):Option ab:=
 qI N a0 (List.length a0:Int) N kf ([]:(List QJ)) (0:Int)
noncomputable def aiv (N:Nat) (a0:(List cg)) (kf:(List cg)→Option ab):Option ab:=
 bif (List.isEmpty a0) then
  both (kf ([]:(List cg))) (
   bif (decide ((List.length ([]:(List cg))+List.length a0)*2≤4398046511104)) then
    kf (([]:(List cg))++a0)
   else none)
 else
  bif (decide ((List.length ([]:(List cg))+List.length a0)*2≤4398046511104)) then
   kf (([]:(List cg))++a0)
  else none
noncomputable def aiw (N:Nat) (a0:(List QB)) (kf:(List QB)→Option ab):Option ab:=
 bif (List.isEmpty a0) then
  both (kf ([]:(List QB))) (
   bif (decide ((List.length ([]:(List QB))+List.length a0)*3≤4398046511104)) then
    kf (([]:(List QB))++a0)
   else none)
 else
  bif (decide ((List.length ([]:(List QB))+List.length a0)*3≤4398046511104)) then
   kf (([]:(List QB))++a0)
  else none
noncomputable def Zt (N:Nat) (a0:(List QL)) (kf:(List QL)→Option ab):Option ab:=
 bif (List.isEmpty a0) then
  both (kf ([]:(List QL))) (
   bif (decide ((List.length ([]:(List QL))+List.length a0)*4≤4398046511104)) then
    kf (([]:(List QL))++a0)
   else none)
 else
  bif (decide ((List.length ([]:(List QL))+List.length a0)*4≤4398046511104)) then
   kf (([]:(List QL))++a0)
  else none
noncomputable def JG (N:Nat) (a0:QC) (kf:QC→Option ab):Option ab:=
 SH N a0.1 (fun Br=>
  aiu N a0.2.1 (fun arj=>
   aiv N a0.2.2.1 (fun avc=>
    JF N a0.2.2.2.1 (fun Ol=>
     aiw N a0.2.2.2.2.1 (fun ado=>
      Zt N a0.2.2.2.2.2.1 (fun avd=>
       kf (Br,(arj,(avc,(Ol,(ado,(avd,a0.2.2.2.2.2.2))))))))))))
noncomputable def aix (N:Nat) (a0:QT) (a1:Int) (kf:Bool→Option ab):Option ab:=
 kf (a0.1==a1)
noncomputable def qJ (N:Nat) (af:(List QT)) (aM:Int) (tk:Int):Nat→(Option ab)→(Int→Option ab)→Int→Option ab
 |0,_,_,_=>none
 |kX+1,gh,gk,gK=>
  bif (decide (gK<tk)) then
   bif (bC gK (List.length af)) then
    aix N (List.getD af (Int.toNat gK) aC) aM (fun nB=>
     bif nB then
      gk gK
     else
      (qJ N af aM tk kX gh gk) (IntKind.wrap .i64 (gK+(1:Int))))
   else none
  else
   gh
noncomputable def ark (N:Nat) (a0:(List QT)) (adp:Int) (kf:Int→Option ab):Option ab:=
 qJ N a0 adp (List.length a0:Int) N (kf (-1:Int)) kf (0:Int)
noncomputable def HN (N:Nat) (a0:(List QT)) (a1:Int) (kf:Int→Option ab):Option ab:=
 ark N a0 a1 kf
noncomputable def Om (N:Nat) (a0:QC) (kf:Bool→Option ab):Option ab:=
 kf (decide ((List.length a0.2.2.1:Int)>(0:Int)))
noncomputable def aiy (N:Nat) (a0:(List QT)) (a1:Int) (a2:(List QT)) (kf:(List QT)→Option ab):Option ab:=
 bif (decide ((0:Int)≤a1)&&(decide (a1≤(List.length a0:Int))&&(Nat.blt 0 (List.length a2)&&Nat.ble ((List.length a0+List.length a2)*Ty.size dC) 4398046511104))) then
  kf (List.take (Int.toNat a1) a0++a2++List.drop (Int.toNat a1) a0)
 else none
noncomputable def arl (N:Nat) (a0:(List QL)) (kf:Int→Option ab):Option ab:=
 bif ((List.length a0:Int)==(0:Int)) then
  kf (0:Int)
 else
  bif (bC (IntKind.wrap .i64 ((List.length a0:Int) - (1:Int))) (List.length a0)) then
   kf (List.getD a0 (Int.toNat (IntKind.wrap .i64 ((List.length a0:Int) - (1:Int)))) Bm).2.2.2
  else none
noncomputable def fR (N:Nat) (a0:Int) (a1:Int) (a2:Int) (kf:Bool→Option ab):Option ab:=
 bif (decide (a1≤a0)) then
  kf (decide (a0≤a2))
 else
  kf false
noncomputable def aiz (N:Nat) (a0:Int) (a1:Int) (kf:Int→Option ab):Option ab:=
 fR N a1 (1:Int) (1000000000000:Int) (fun Bp=>
  bif (!Bp) then
   kf (0:Int)
  else
   bif (!decide (a1=0)) then
    bif (decide ((Int.tmod a0 a1)<(0:Int))) then
     kf (IntKind.wrap .i64 ((Int.tmod a0 a1)+a1))
    else
     kf (Int.tmod a0 a1)
   else none)
noncomputable def aiA (N:Nat) (a0:Int) (a1:Int) (kf:Int→Option ab):Option ab:=
 aiz N a1 (2147483647:Int) (fun adq=>
  kf (Int.tmod (IntKind.wrap .i64 ((IntKind.wrap .i64 ((IntKind.wrap .i64 (a0*(1000003:Int)))+adq))+(13:Int))) (2147483647:Int)))
noncomputable def qK (N:Nat) (kd:(List Int)) (tk:Int):Nat→(Int→Option ab)→Int→Int→Option ab
 |0,_,_,_=>none
 |kX+1,cr,cj,gK=>
  bif (decide (gK<tk)) then
   bif (bC gK (List.length kd)) then
    aiA N cj (List.getD kd (Int.toNat gK) (0:Int)) (fun On=>
     (qK N kd tk kX cr) On (IntKind.wrap .i64 (gK+(1:Int))))
   else none
  else
   cr cj
noncomputable def aiB (N:Nat) (a0:(List Int)) (kf:Int→Option ab):Option ab:=
 qK N a0 (List.length a0:Int) N kf (11:Int) (0:Int)
noncomputable def SI (N:Nat) (a0:Int) (a1:QL) (kf:Int→Option ab):Option ab:=
 aiB N [a0,a1.1,a1.2.1,a1.2.2.1] kf
noncomputable def wk (N:Nat) (qL:(List QL)) (lY:Int):Nat→(Option ab)→(Bool→Option ab)→Int→Int→Option ab
 |0,_,_,_,_=>none
 |kX+1,jM,jC,cj,pK=>
  bif (decide (pK<lY)) then
   bif (bC pK (List.length qL)) then
    bif ((List.getD qL (Int.toNat pK) Bm).1 != (IntKind.wrap .i64 (pK+(1:Int)))) then
     jC false
    else
     fR N (List.getD qL (Int.toNat pK) Bm).2.1 (1:Int) (9:Int) (fun yo=>
      bif (!yo) then
       jC false
      else
       fR N (List.getD qL (Int.toNat pK) Bm).2.2.1 (0:Int) (99:Int) (fun Oo=>
        bif (!Oo) then
         jC false
        else
         SI N cj (List.getD qL (Int.toNat pK) Bm) (fun Oq=>
          bif ((List.getD qL (Int.toNat pK) Bm).2.2.2 != Oq) then
           jC false
          else
           (wk N qL lY kX jM jC) (List.getD qL (Int.toNat pK) Bm).2.2.2 (IntKind.wrap .i64 (pK+(1:Int))))))
   else none
  else
   jM
noncomputable def I75 (N:Nat) (a0:(List QL)) (kf:Bool→Option ab):Option ab:=
 bif (decide ((List.length a0:Int)>(200:Int))) then
  kf false
 else
  wk N a0 (List.length a0:Int) N (kf true) kf (0:Int) (0:Int)
noncomputable def aiC (N:Nat) (a0:(List QL)) (a1:Int) (a2:Int) (kf:(List QL)→Bool→Option ab):Option ab:=
 arl N a0 (fun adr=>
  SI N adr ((IntKind.wrap .i64 ((List.length a0:Int)+(1:Int))),(a1,(a2,(0:Int)))) (fun yp=>
   Zt N a0 (fun ads=>
    bif (decide ((List.length ads+List.length [((IntKind.wrap .i64 ((List.length a0:Int)+(1:Int))),(a1,(a2,yp)))])*4≤4398046511104)) then
     I75 N (ads++[((IntKind.wrap .i64 ((List.length a0:Int)+(1:Int))),(a1,(a2,yp)))]) (fun ave=>
      bif (!ave) then
       Zt N a0 (fun avf=>
        kf avf false)
      else
       kf (ads++[((IntKind.wrap .i64 ((List.length a0:Int)+(1:Int))),(a1,(a2,yp)))]) true)
    else none)))
noncomputable def tp (fV:Int) (o6:(List Int)) (ly:Int):Nat→(Int→Option ab)→Int→Int→Option ab
 |0,_,_,_=>none
 |RL+1,dD,iz,iS=>
  bif (decide (iS<ly)) then
   bif (bC iS (List.length o6)) then
    bif ((List.getD o6 (Int.toNat iS) (0:Int))==fV) then
     (tp fV o6 ly RL dD) (IntKind.wrap .i64 (iz+(1:Int))) (IntKind.wrap .i64 (iS+(1:Int)))
    else
     (tp fV o6 ly RL dD) iz (IntKind.wrap .i64 (iS+(1:Int)))
   else none
  else
   dD iz
noncomputable def I78 (N:Nat) (a0:(List Int)) (a1:Int) (kf:Int→Option ab):Option ab:=
 tp a1 a0 (List.length a0:Int) N kf (0:Int) (0:Int)
noncomputable def jo (N:Nat) (vt:(List QT)) (vu:QT) (JH:(List QT)) (JI:Int) (JJ:Int) (ja:(List Int)) (adt:Int):Nat→(Option ab)→(Bool→Option ab)→Int→Option ab
 |0,_,_,_=>none
 |aw6+1,pL,jq,Bs=>
  bif (decide (Bs<adt)) then
   bif (bC Bs (List.length ja)) then
    HN N vt (List.getD ja (Int.toNat Bs) (0:Int)) (fun wm=>
     bif (decide (wm<(0:Int))) then
      jq false
     else
      bif ((List.getD ja (Int.toNat Bs) (0:Int))==vu.1) then
       jq false
      else
       bif (bC wm (List.length vt)) then
        I78 N vu.2.2.2.2.2 (List.getD ja (Int.toNat Bs) (0:Int)) (fun SJ=>
         I78 N (List.getD vt (Int.toNat wm) aC).2.2.2.2.2 vu.1 (fun JK=>
          bif (SJ != JK) then
           jq false
          else
           (jo N vt vu JH JI JJ ja adt aw6 pL jq) (IntKind.wrap .i64 (Bs+(1:Int)))))
       else none)
   else none
  else
   pL
noncomputable def DR (N:Nat) (cp:Bool→Option ab) (arn:Int→Option ab) (af:(List QT)) (dq:(List QT)) (Fx:Int) (fo:Int):Option ab:=
 jo N af (List.getD dq (Int.toNat fo) aC) dq Fx fo (List.getD dq (Int.toNat fo) aC).2.2.2.2.2 (List.length (List.getD dq (Int.toNat fo) aC).2.2.2.2.2:Int) N (arn (IntKind.wrap .i64 (fo+(1:Int)))) cp (0:Int)
noncomputable def oc (N:Nat) (af:(List QT)) (dq:(List QT)) (Fx:Int):Nat→(Option ab)→(Bool→Option ab)→Int→Option ab
 |0,_,_,_=>none
 |kX+1,qM,cp,fo=>
  bif (decide (fo<Fx)) then
   bif (bC fo (List.length dq)) then
    fR N (List.getD dq (Int.toNat fo) aC).1 (1:Int) (99:Int) (fun yo=>
     bif (!yo) then
      cp false
     else
      bif (decide (fo>(0:Int))) then
       bif (bC (IntKind.wrap .i64 (fo - (1:Int))) (List.length af)) then
        bif (decide ((List.getD dq (Int.toNat fo) aC).1≤(List.getD af (Int.toNat (IntKind.wrap .i64 (fo - (1:Int)))) aC).1)) then
         cp false
        else
         fR N (List.getD dq (Int.toNat fo) aC).2.1 (1:Int) (99:Int) (fun adu=>
          bif (!adu) then
           cp false
          else
           bif (decide ((List.length (List.getD dq (Int.toNat fo) aC).2.2.2.2.2:Int)>(20:Int))) then
            cp false
           else
            fR N (List.getD dq (Int.toNat fo) aC).2.2.1 (0:Int) (List.length (List.getD dq (Int.toNat fo) aC).2.2.2.2.2:Int) (fun IB=>
             bif (!IB) then
              cp false
             else
              fR N (List.getD dq (Int.toNat fo) aC).2.2.2.2.1 (0:Int) (List.length (List.getD dq (Int.toNat fo) aC).2.2.2.2.2:Int) (fun adv=>
               bif (!adv) then
                cp false
               else
                fR N (List.getD dq (Int.toNat fo) aC).2.2.2.1 (0:Int) (100000:Int) (fun SK=>
                 bif (!SK) then
                  cp false
                 else
                  DR N cp (oc N af dq Fx kX qM cp) af dq Fx fo))))
       else none
      else
       fR N (List.getD dq (Int.toNat fo) aC).2.1 (1:Int) (99:Int) (fun SL=>
        bif (!SL) then
         cp false
        else
         bif (decide ((List.length (List.getD dq (Int.toNat fo) aC).2.2.2.2.2:Int)>(20:Int))) then
          cp false
         else
          fR N (List.getD dq (Int.toNat fo) aC).2.2.1 (0:Int) (List.length (List.getD dq (Int.toNat fo) aC).2.2.2.2.2:Int) (fun SM=>
           bif (!SM) then
            cp false
           else
            fR N (List.getD dq (Int.toNat fo) aC).2.2.2.2.1 (0:Int) (List.length (List.getD dq (Int.toNat fo) aC).2.2.2.2.2:Int) (fun qN=>
             bif (!qN) then
              cp false
             else
              fR N (List.getD dq (Int.toNat fo) aC).2.2.2.1 (0:Int) (100000:Int) (fun SN=>
               bif (!SN) then
                cp false
               else
                DR N cp (oc N af dq Fx kX qM cp) af dq Fx fo)))))
   else none
  else
   qM
noncomputable def Bt (N:Nat) (a0:(List QT)) (kf:Bool→Option ab):Option ab:=
 bif (decide ((List.length a0:Int)>(10:Int))) then
  kf false
 else
  oc N a0 a0 (List.length a0:Int) N (kf true) kf (0:Int)
noncomputable def nC (N:Nat) (Ot:(List QJ)) (gl:QJ) (Fy:(List QJ)) (Fz:Int) (FA:Int) (jc:(List Int)) (SO:Int):Nat→(Option ab)→(Bool→Option ab)→Int→Option ab
 |0,_,_,_=>none
 |avg+1,qO,mL,qP=>
  bif (decide (qP<SO)) then
   bif (bC qP (List.length jc)) then
    fR N (List.getD jc (Int.toNat qP) (0:Int)) (1:Int) (99:Int) (fun SP=>
     bif (!SP) then
      mL false
     else
      bif (decide (qP>(0:Int))) then
       bif (bC (IntKind.wrap .i64 (qP - (1:Int))) (List.length gl.2.2)) then
        bif (decide ((List.getD jc (Int.toNat qP) (0:Int))≤(List.getD gl.2.2 (Int.toNat (IntKind.wrap .i64 (qP - (1:Int)))) (0:Int)))) then
         mL false
        else
         (nC N Ot gl Fy Fz FA jc SO avg qO mL) (IntKind.wrap .i64 (qP+(1:Int)))
       else none
      else
       (nC N Ot gl Fy Fz FA jc SO avg qO mL) (IntKind.wrap .i64 (qP+(1:Int))))
   else none
  else
   qO
noncomputable def JL (N:Nat) (eM:Bool→Option ab) (aro:Int→Option ab) (af:(List QJ)) (fp:(List QJ)) (gm:Int) (cB:Int):Option ab:=
 nC N af (List.getD fp (Int.toNat cB) cY) fp gm cB (List.getD fp (Int.toNat cB) cY).2.2 (List.length (List.getD fp (Int.toNat cB) cY).2.2:Int) N (aro (IntKind.wrap .i64 (cB+(1:Int)))) eM (0:Int)
noncomputable def tq (N:Nat) (af:(List QJ)) (fp:(List QJ)) (gm:Int):Nat→(Option ab)→(Bool→Option ab)→Int→Option ab
 |0,_,_,_=>none
 |kX+1,qQ,eM,cB=>
  bif (decide (cB<gm)) then
   bif (bC cB (List.length fp)) then
    fR N (List.getD fp (Int.toNat cB) cY).1 (1:Int) (99:Int) (fun yq=>
     bif (!yq) then
      eM false
     else
      bif (decide (cB>(0:Int))) then
       bif (bC (IntKind.wrap .i64 (cB - (1:Int))) (List.length af)) then
        bif (decide ((List.getD fp (Int.toNat cB) cY).1≤(List.getD af (Int.toNat (IntKind.wrap .i64 (cB - (1:Int)))) cY).1)) then
         eM false
        else
         fR N (List.getD fp (Int.toNat cB) cY).2.1 (1:Int) (99:Int) (fun adw=>
          bif (!adw) then
           eM false
          else
           JL N eM (tq N af fp gm kX qQ eM) af fp gm cB)
       else none
      else
       fR N (List.getD fp (Int.toNat cB) cY).2.1 (1:Int) (99:Int) (fun tr=>
        bif (!tr) then
         eM false
        else
         JL N eM (tq N af fp gm kX qQ eM) af fp gm cB))
   else none
  else
   qQ
noncomputable def I79 (N:Nat) (a0:(List QJ)) (kf:Bool→Option ab):Option ab:=
 bif (decide ((List.length a0:Int)>(10:Int))) then
  kf false
 else
  tq N a0 a0 (List.length a0:Int) N (kf true) kf (0:Int)
noncomputable def qR (af:(List Int)) (aM:Int) (tk:Int):Nat→(Option ab)→(Int→Option ab)→Int→Option ab
 |0,_,_,_=>none
 |kX+1,Bu,Bv,gK=>
  bif (decide (gK<tk)) then
   bif (bC gK (List.length af)) then
    bif (aM==(List.getD af (Int.toNat gK) (0:Int))) then
     Bv gK
    else
     (qR af aM tk kX Bu Bv) (IntKind.wrap .i64 (gK+(1:Int)))
   else none
  else
   Bu
noncomputable def SQ (N:Nat) (a0:(List Int)) (a1:Int) (kf:Int→Option ab):Option ab:=
 qR a0 a1 (List.length a0:Int) N (kf (-1:Int)) kf (0:Int)
noncomputable def S82 (N:Nat) (a0:(List Int)) (a1:Int) (kf:Bool→Option ab):Option ab:=
 SQ N a0 a1 (fun Bp=>
  kf (decide (Bp≥(0:Int))))
noncomputable def I19 (N:Nat) (a0:(List QT)) (a1:Int) (a2:Int) (kf:Bool→Option ab):Option ab:=
 HN N a0 a1 (fun eW=>
  bif (decide (eW≥(0:Int))) then
   bif (bC eW (List.length a0)) then
    S82 N (List.getD a0 (Int.toNat eW) aC).2.2.2.2.2 a2 kf
   else none
  else
   kf false)
noncomputable def I77 (N:Nat) (a0:(List QT)) (a1:Int) (a2:Int) (kf:Bool→Option ab):Option ab:=
 HN N a0 a1 (fun da=>
  HN N a0 a2 (fun dt=>
   Bt N a0 (fun sj=>
    bif sj then
     bif (decide (da≥(0:Int))) then
      bif (decide (dt≥(0:Int))) then
       bif (da != dt) then
        bif (bC da (List.length a0)) then
         bif (bC dt (List.length a0)) then
          bif ((List.getD a0 (Int.toNat da) aC).2.1 != (List.getD a0 (Int.toNat dt) aC).2.1) then
           I19 N a0 a1 a2 (fun adx=>
            kf (!adx))
          else
           kf false
         else none
        else none
       else
        kf false
      else
       kf false
     else
      kf false
    else
     kf false)))
noncomputable def qS (N:Nat) (IC:(List Int)) (kK:(List QT)) (ady:Int):Nat→(Option ab)→(Bool→Option ab)→Int→Option ab
 |0,_,_,_=>none
 |aw7+1,pM,pN,JM=>
  bif (decide (JM<ady)) then
   bif (bC JM (List.length kK)) then
    I78 N IC (List.getD kK (Int.toNat JM) aC).1 (fun SR=>
     bif (SR != (1:Int)) then
      pN false
     else
      (qS N IC kK ady aw7 pM pN) (IntKind.wrap .i64 (JM+(1:Int))))
   else none
  else
   pM
noncomputable def wo (N:Nat) (af:(List QT)) (gm:(List cg)) (cB:Int):Nat→((List Int)→Option ab)→(Bool→Option ab)→(List Int)→Int→Option ab
 |0,_,_,_,_=>none
 |RL+1,dD,gL,iz,ld=>
  bif (decide (ld<cB)) then
   bif (bC ld (List.length gm)) then
    I77 N af (List.getD gm (Int.toNat ld) dz).1 (List.getD gm (Int.toNat ld) dz).2 (fun lZ=>
     bif (!lZ) then
      gL false
     else
      bif (decide ((List.length iz+List.length [(List.getD gm (Int.toNat ld) dz).1,(List.getD gm (Int.toNat ld) dz).2])*1≤4398046511104)) then
       (wo N af gm cB RL dD gL) (iz++[(List.getD gm (Int.toNat ld) dz).1,(List.getD gm (Int.toNat ld) dz).2]) (IntKind.wrap .i64 (ld+(1:Int)))
      else none)
   else none
  else
   dD iz
noncomputable def I17 (N:Nat) (a0:(List QT)) (a1:(List cg)) (kf:Bool→Option ab):Option ab:=
 wo N a0 a1 (List.length a1:Int) N (fun avh=>
  qS N avh a0 (List.length a0:Int) N (kf true) kf (0:Int)) kf ([]:(List Int)) (0:Int)
noncomputable def I81 (N:Nat) (a0:QJ) (a1:Int) (kf:Bool→Option ab):Option ab:=
 kf (a0.1==a1)
noncomputable def wq (N:Nat) (af:(List QJ)) (aM:Int) (tk:Int):Nat→(Option ab)→(Int→Option ab)→Int→Option ab
 |0,_,_,_=>none
 |kX+1,gh,gk,gK=>
  bif (decide (gK<tk)) then
   bif (bC gK (List.length af)) then
    I81 N (List.getD af (Int.toNat gK) cY) aM (fun nB=>
     bif nB then
      gk gK
     else
      (wq N af aM tk kX gh gk) (IntKind.wrap .i64 (gK+(1:Int))))
   else none
  else
   gh
noncomputable def S80 (N:Nat) (a0:(List QJ)) (adp:Int) (kf:Int→Option ab):Option ab:=
 wq N a0 adp (List.length a0:Int) N (kf (-1:Int)) kf (0:Int)
noncomputable def wu (N:Nat) (af:(List QT)) (Ou:QJ) (nD:(List Int)) (apw:Int):Nat→(Option ab)→(Bool→Option ab)→Int→Option ab
 |0,_,_,_=>none
 |RL+1,tu,lJ,jr=>
  bif (decide (jr<apw)) then
   bif (bC jr (List.length nD)) then
    HN N af (List.getD nD (Int.toNat jr) (0:Int)) (fun lZ=>
     bif (decide (lZ<(0:Int))) then
      lJ false
     else
      bif (bC lZ (List.length af)) then
       bif ((List.getD af (Int.toNat lZ) aC).2.1==Ou.2.1) then
        lJ false
       else
        S82 N Ou.2.2 (List.getD nD (Int.toNat jr) (0:Int)) (fun tr=>
         bif tr then
          lJ false
         else
          (wu N af Ou nD apw RL tu lJ) (IntKind.wrap .i64 (jr+(1:Int))))
      else none)
   else none
  else
   tu
noncomputable def I83 (N:Nat) (a0:(List QT)) (a1:QJ) (a2:cg) (kf:Bool→Option ab):Option ab:=
 wu N a0 a1 [a2.1,a2.2] (List.length [a2.1,a2.2]:Int) N (kf true) kf (0:Int)
noncomputable def wv (N:Nat) (wx:(List QT)) (kZ:(List QJ)) (lz:(List cg)) (ke:(List Int)) (nE:(List Int)) (apx:Int):Nat→(Option ab)→(Bool→Option ab)→Int→Option ab
 |0,_,_,_=>none
 |n_9+1,uz,lK,vw=>
  bif (decide (vw<apx)) then
   bif (bC vw (List.length nE)) then
    S80 N kZ (List.getD nE (Int.toNat vw) (0:Int)) (fun wy=>
     bif (decide (wy<(0:Int))) then
      lK false
     else
      bif (decide ((0:Int)≤(0:Int))&&decide ((0:Int)≤vw)&&decide (vw≤(List.length ke:Int))) then
       S82 N (List.drop (Int.toNat (0:Int)) (List.take (Int.toNat vw) ke)) (List.getD nE (Int.toNat vw) (0:Int)) (fun SS=>
        bif SS then
         lK false
        else
         bif (bC wy (List.length kZ)) then
          bif (bC vw (List.length lz)) then
           I83 N wx (List.getD kZ (Int.toNat wy) cY) (List.getD lz (Int.toNat vw) dz) (fun SU=>
            bif (!SU) then
             lK false
            else
             (wv N wx kZ lz ke nE apx n_9 uz lK) (IntKind.wrap .i64 (vw+(1:Int))))
          else none
         else none)
      else none)
   else none
  else
   uz
noncomputable def I18 (N:Nat) (a0:(List QT)) (a1:(List QJ)) (a2:(List cg)) (a3:(List Int)) (kf:Bool→Option ab):Option ab:=
 I79 N a1 (fun fm=>
  bif (!fm) then
   kf false
  else
   bif ((List.length a3:Int) != (List.length a2:Int)) then
    kf false
   else
    wv N a0 a1 a2 a3 a3 (List.length a3:Int) N (kf true) kf (0:Int))
noncomputable def Ov (N:Nat) (a0:QB) (kf:Bool→Option ab):Option ab:=
 fR N a0.1 (1:Int) (99:Int) (fun Br=>
  bif Br then
   fR N a0.2.1 (0:Int) (100:Int) (fun Ow=>
    bif Ow then
     fR N a0.2.2 (0:Int) (100:Int) (fun Ox=>
      bif Ox then
       kf (a0.2.1 != a0.2.2)
      else
       kf false)
    else
     kf false)
  else
   kf false)
noncomputable def qT (lY:(List QT)) (pK:Int):Nat→(Int→Option ab)→Int→Int→Option ab
 |0,_,_,_=>none
 |RL+1,Bw,aR,Wi=>
  bif (decide (Wi<pK)) then
   bif (bC Wi (List.length lY)) then
    (qT lY pK RL Bw) (IntKind.wrap .i64 (aR+(List.getD lY (Int.toNat Wi) aC).2.2.1)) (IntKind.wrap .i64 (Wi+(1:Int)))
   else none
  else
   Bw aR
noncomputable def aiD (N:Nat) (a0:(List QT)) (kf:Int→Option ab):Option ab:=
 Bt N a0 (fun Bp=>
  bif (!Bp) then
   kf (0:Int)
  else
   qT a0 (List.length a0:Int) N kf (0:Int) (0:Int))
noncomputable def tx (N:Nat) (jO:QC) (kL:(List QB)) (adz:Int):Nat→(Option ab)→(Bool→Option ab)→Int→Option ab
 |0,_,_,_=>none
 |SV+1,qU,mM,nF=>
  bif (decide (nF<adz)) then
   bif (bC nF (List.length kL)) then
    bif (!((decide (((List.getD kL (Int.toNat nF) gU).1:Int)=(0:Int)))&&((decide (((List.getD kL (Int.toNat nF) gU).2.1:Int)=(0:Int)))&&(decide (((List.getD kL (Int.toNat nF) gU).2.2:Int)=(0:Int)))))) then
     Ov N (List.getD kL (Int.toNat nF) gU) (fun SW=>
      bif (!SW) then
       mM false
      else
       bif (bC nF (List.length jO.2.2.2.1)) then
        bif ((List.getD kL (Int.toNat nF) gU).1 != (List.getD jO.2.2.2.1 (Int.toNat nF) (0:Int))) then
         mM false
        else
         (tx N jO kL adz SV qU mM) (IntKind.wrap .i64 (nF+(1:Int)))
       else none)
    else
     (tx N jO kL adz SV qU mM) (IntKind.wrap .i64 (nF+(1:Int)))
   else none
  else
   qU
noncomputable def JN (N:Nat) (a0:QC) (kf:Bool→Option ab):Option ab:=
 tx N a0 a0.2.2.2.2.1 (List.length a0.2.2.2.2.1:Int) N (
  fR N a0.2.2.2.2.2.2 (0:Int) (1000:Int) (fun arp=>
   bif arp then
    aiD N a0.1 (fun wz=>
     kf (wz==a0.2.2.2.2.2.2))
   else
    kf false)) kf (0:Int)
noncomputable def RM (N:Nat) (a0:QC) (kf:Bool→Option ab):Option ab:=
 Bt N a0.1 (fun Bp=>
  bif (!Bp) then
   kf false
  else
   I79 N a0.2.1 (fun Oy=>
    bif (!Oy) then
     kf false
    else
     I75 N a0.2.2.2.2.2.1 (fun FC=>
      bif (!FC) then
       kf false
      else
       bif ((List.length a0.2.2.2.1:Int) != (List.length a0.2.2.1:Int)) then
        kf false
       else
        bif ((List.length a0.2.2.2.2.1:Int) != (List.length a0.2.2.1:Int)) then
         kf false
        else
         Om N a0 (fun avi=>
          bif avi then
           I17 N a0.1 a0.2.2.1 (fun avj=>
            bif (!avj) then
             kf false
            else
             I18 N a0.1 a0.2.1 a0.2.2.1 a0.2.2.2.1 (fun avk=>
              bif (!avk) then
               kf false
              else
               JN N a0 kf))
          else
           JN N a0 kf))))
noncomputable def JO (N:Nat) (a0:QC) (a1:QC) (a2:Int) (a3:Int) (kf:QC→Bool→Option ab):Option ab:=
 aiC N a1.2.2.2.2.2.1 a2 a3 (fun apy pO=>
  bif (!pO) then
   JG N a0 (fun adA=>
    kf adA false)
  else
   RM N a0 (fun aV=>
    bif (!aV) then
     JG N a0 (fun adA=>
      kf adA false)
    else
     RM N (a1.1,(a1.2.1,(a1.2.2.1,(a1.2.2.2.1,(a1.2.2.2.2.1,(apy,a1.2.2.2.2.2.2)))))) (fun avl=>
      bif (!avl) then
       JG N a0 (fun Oz=>
        kf Oz false)
      else
       kf (a1.1,(a1.2.1,(a1.2.2.1,(a1.2.2.2.1,(a1.2.2.2.2.1,(apy,a1.2.2.2.2.2.2)))))) true)))
noncomputable def tz (Zu:Int) (aiE:Int) (aiF:QC) (aiG:QC) (yr:QC):Nat→(Int→Option ab)→Int→Option ab
 |0,_,_=>none
 |Zv+1,od,Zw=>
  bif (decide (Zw<(List.length yr.1:Int))) then
   bif (bC Zw (List.length yr.1)) then
    bif (decide ((List.getD yr.1 (Int.toNat Zw) aC).1<Zu)) then
     (tz Zu aiE aiF aiG yr Zv od) (IntKind.wrap .i64 (Zw+(1:Int)))
    else
     od Zw
   else none
  else
   od Zw
noncomputable def I30 (N:Nat) (a0:QC) (a1:Int) (a2:Int) (kf:QC→Bool→Option ab):Option ab:=
 JG N a0 (fun da=>
  HN N a0.1 a1 (fun OA=>
   bif (decide (OA≥(0:Int))) then
    kf da false
   else
    Om N a0 (fun OB=>
     bif OB then
      kf da false
     else
      tz a1 a2 a0 (([]:(List QT)),(([]:(List QJ)),(([]:(List cg)),(([]:(List Int)),(([]:(List QB)),(([]:(List QL)),(0:Int))))))) da N (fun avm=>
       aiy N da.1 avm [(a1,(a2,((0:Int),((0:Int),((0:Int),([]:(List Int)))))))] (fun arq=>
        JO N a0 (arq,da.2) (1:Int) a1 kf)) (0:Int))))
noncomputable def aiH (N:Nat) (a0:QJ) (a1:Int) (kf:Bool→Option ab):Option ab:=
 kf (a0.1==a1)
noncomputable def qV (N:Nat) (af:(List QJ)) (aM:Int) (tk:Int):Nat→(Option ab)→(Int→Option ab)→Int→Option ab
 |0,_,_,_=>none
 |kX+1,gh,gk,gK=>
  bif (decide (gK<tk)) then
   bif (bC gK (List.length af)) then
    aiH N (List.getD af (Int.toNat gK) cY) aM (fun nB=>
     bif nB then
      gk gK
     else
      (qV N af aM tk kX gh gk) (IntKind.wrap .i64 (gK+(1:Int))))
   else none
  else
   gh
noncomputable def ars (N:Nat) (a0:(List QJ)) (adp:Int) (kf:Int→Option ab):Option ab:=
 qV N a0 adp (List.length a0:Int) N (kf (-1:Int)) kf (0:Int)
noncomputable def SX (N:Nat) (a0:(List QJ)) (a1:Int) (kf:Int→Option ab):Option ab:=
 ars N a0 a1 kf
noncomputable def aiI (N:Nat) (a0:(List QJ)) (a1:Int) (a2:(List QJ)) (kf:(List QJ)→Option ab):Option ab:=
 bif (decide ((0:Int)≤a1)&&(decide (a1≤(List.length a0:Int))&&(Nat.blt 0 (List.length a2)&&Nat.ble ((List.length a0+List.length a2)*Ty.size jL) 4398046511104))) then
  kf (List.take (Int.toNat a1) a0++a2++List.drop (Int.toNat a1) a0)
 else none
noncomputable def tC (kZ:Int) (lz:Int) (ke:QC) (aiJ:QC) (yt:QC):Nat→(Int→Option ab)→Int→Option ab
 |0,_,_=>none
 |n_9+1,fX,Zx=>
  bif (decide (Zx<(List.length yt.2.1:Int))) then
   bif (bC Zx (List.length yt.2.1)) then
    bif (decide ((List.getD yt.2.1 (Int.toNat Zx) cY).1<kZ)) then
     (tC kZ lz ke aiJ yt n_9 fX) (IntKind.wrap .i64 (Zx+(1:Int)))
    else
     fX Zx
   else none
  else
   fX Zx
noncomputable def I32 (N:Nat) (a0:QC) (a1:Int) (a2:Int) (kf:QC→Bool→Option ab):Option ab:=
 JG N a0 (fun da=>
  SX N a0.2.1 a1 (fun OA=>
   bif (decide (OA≥(0:Int))) then
    kf da false
   else
    tC a1 a2 a0 (([]:(List QT)),(([]:(List QJ)),(([]:(List cg)),(([]:(List Int)),(([]:(List QB)),(([]:(List QL)),(0:Int))))))) da N (fun avn=>
     aiI N da.2.1 avn [(a1,(a2,([]:(List Int))))] (fun art=>
      JO N a0 (da.1,(art,da.2.2)) (2:Int) a1 kf)) (0:Int)))
noncomputable def aiK (N:Nat) (a0:(List QT)) (kf:(List QT)→Option ab):Option ab:=
 bif (List.isEmpty a0) then
  both (kf ([]:(List QT))) (
   bif (decide ((List.length ([]:(List QT))+List.length a0)*6≤4398046511104)) then
    kf (([]:(List QT))++a0)
   else none)
 else
  bif (decide ((List.length ([]:(List QT))+List.length a0)*6≤4398046511104)) then
   kf (([]:(List QT))++a0)
  else none
noncomputable def JP (kf:Int→Option ab) (avo:Int) (aw8:Int):Option ab:=
 bif (bC (IntKind.wrap .u8 avo) (ByteArray.size bq)) then
  kf (IntKind.wrap .i64 (aw8+(IntKind.wrap .i64 (bt bq (IntKind.wrap .u8 avo)))))
 else none
noncomputable def JQ (kf:Int→Option ab) (aru:Int) (avp:Int):Option ab:=
 bif (decide (aru≥(256:Int))) then
  bif (decide (0≤(8:Int))) then
   JP kf (Int.fdiv aru (2^(min (Int.toNat (8:Int)) (IntKind.bits .u64)))) (IntKind.wrap .i64 (avp+(8:Int)))
  else none
 else
  JP kf aru avp
noncomputable def JR (kf:Int→Option ab) (arv:Int) (avq:Int):Option ab:=
 bif (decide (arv≥(65536:Int))) then
  bif (decide (0≤(16:Int))) then
   JQ kf (Int.fdiv arv (2^(min (Int.toNat (16:Int)) (IntKind.bits .u64)))) (IntKind.wrap .i64 (avq+(16:Int)))
  else none
 else
  JQ kf arv avq
noncomputable def arw (N:Nat) (a0:Int) (kf:Int→Option ab):Option ab:=
 bif (decide (a0≥(4294967296:Int))) then
  bif (decide (0≤(32:Int))) then
   JR kf (Int.fdiv a0 (2^(min (Int.toNat (32:Int)) (IntKind.bits .u64)))) (32:Int)
  else none
 else
  JR kf a0 (0:Int)
noncomputable def aiL (N:Nat) (a0:Int) (kf:Int→Option ab):Option ab:=
 arw N a0 kf
noncomputable def aiM (N:Nat) (a0:Int) (kf:Bool→Option ab):Option ab:=
 kf (a0 != a0)
noncomputable def Zy (N:Nat) (a0:Int) (a1:Int) (kf:Int→Option ab):Option ab:=
 aiM N a0 (fun adq=>
  aiM N a1 (fun Wj=>
   bif adq then
    bif Wj then
     kf (0:Int)
    else
     kf (-1:Int)
   else
    bif Wj then
     kf (1:Int)
    else
     bif (decide (a0<a1)) then
      kf (-1:Int)
     else
      bif (decide (a0>a1)) then
       kf (1:Int)
      else
       kf (0:Int)))
noncomputable def qW (cj:Int) (kd:(List Int)) (tk:Int):Nat→(Option ab)→(Int→Option ab)→Int→Option ab
 |0,_,_,_=>none
 |kX+1,fe,Bx,gK=>
  bif (decide (gK<tk)) then
   bif (bC gK (List.length kd)) then
    bif ((List.getD kd (Int.toNat gK) (0:Int)) != cj) then
     Bx (List.getD kd (Int.toNat gK) (0:Int))
    else
     (qW cj kd tk kX fe Bx) (IntKind.wrap .i64 (gK+(1:Int)))
   else none
  else
   fe
noncomputable def aiN (N:Nat) (a0:(List Int)) (kf:Int→Option ab):Option ab:=
 qW (0:Int) a0 (List.length a0:Int) N (kf (0:Int)) kf (0:Int)
noncomputable def aiO (N:Nat) (a0:QT) (a1:QT) (kf:Int→Option ab):Option ab:=
 Zy N a1.2.2.1 a0.2.2.1 (fun iZ=>
  Zy N a1.2.2.2.1 a0.2.2.2.1 (fun dt=>
   Zy N a0.1 a1.1 (fun OB=>
    aiN N [iZ,dt,OB] kf)))
noncomputable def uA (N:Nat) (jO:Int) (Zz:Int) (aw9:Int):Nat→((List QT)→Option ab)→(List QT)→Int→Option ab
 |0,_,_,_=>none
 |SV+1,JS,fW,oe=>
  bif (decide (oe>jO)) then
   bif (bC oe (List.length fW)) then
    bif (bC (IntKind.wrap .i64 (oe - (1:Int))) (List.length fW)) then
     aiO N (List.getD fW (Int.toNat oe) aC) (List.getD fW (Int.toNat (IntKind.wrap .i64 (oe - (1:Int)))) aC) (fun arx=>
      bif (decide (arx<(0:Int))) then
       bif (bC (IntKind.wrap .i64 (oe - (1:Int))) (List.length fW)) then
        bif (bC oe (List.length fW)) then
         bif (bC oe (List.length fW)) then
          share (List.set fW (Int.toNat oe) (List.getD fW (Int.toNat (IntKind.wrap .i64 (oe - (1:Int)))) aC)) (fun apz=>
           bif (bC (IntKind.wrap .i64 (oe - (1:Int))) (List.length apz)) then
            share (List.set apz (Int.toNat (IntKind.wrap .i64 (oe - (1:Int)))) (List.getD fW (Int.toNat oe) aC)) (fun avr=>
             (uA N jO Zz aw9 SV JS) avr (IntKind.wrap .i64 (oe - (1:Int))))
           else none)
         else none
        else none
       else none
      else
       JS fW)
    else none
   else none
  else
   JS fW
noncomputable def qX (N:Nat) (aM:Int) (gy:Int):Nat→((List QT)→Option ab)→(List QT)→Int→Option ab
 |0,_,_,_=>none
 |kX+1,Wk,af,gK=>
  bif (decide (gK<gy)) then
   uA N aM gy gK N (fun avs=>
    (qX N aM gy kX Wk) avs (IntKind.wrap .i64 (gK+(1:Int)))) af gK
  else
   Wk af
noncomputable def ary (N:Nat) (a0:(List QT)) (a1:Int) (a2:Int) (kf:(List QT)→Option ab):Option ab:=
 qX N a1 a2 N kf a0 (IntKind.wrap .i64 (a1+(1:Int)))
noncomputable def JT (N:Nat) (af:(List QT)) (aM:Int) (gy:Int) (db:Int) (iS:Bool) (axF:Bool):Nat→((List QT)→Option ab)→Option ab
 |0,_=>none
 |n_7+1,tu=>
  bif (decide ((IntKind.wrap .i64 (gy - aM))≤(12:Int))) then
   ary N af aM gy tu
  else
   bif (db==(0:Int)) then
    none
   else
    bif (!iS) then
     none
    else none
noncomputable def aiP (N:Nat) (a0:(List QT)) (a1:Int) (a2:Int) (a3:Int) (kf:(List QT)→Option ab):Option ab:=
 JT N a0 a1 a2 a3 true true N kf
noncomputable def aiQ (N:Nat) (a0:(List QT)) (kf:(List QT)→Option ab):Option ab:=
 aiL N (IntKind.wrap .u64 (List.length a0:Int)) (fun da=>
  aiP N a0 (0:Int) (List.length a0:Int) da kf)
noncomputable def qY (jr:(List QT)) (apA:Int):Nat→((List Int)→Option ab)→(List Int)→Int→Option ab
 |0,_,_,_=>none
 |n_8+1,By,db,OC=>
  bif (decide (OC<apA)) then
   bif (bC OC (List.length jr)) then
    bif (decide ((List.length db+List.length [(List.getD jr (Int.toNat OC) aC).1])*1≤4398046511104)) then
     (qY jr apA n_8 By) (db++[(List.getD jr (Int.toNat OC) aC).1]) (IntKind.wrap .i64 (OC+(1:Int)))
    else none
   else none
  else
   By db
noncomputable def adB (N:Nat) (a0:(List QT)) (kf:(List Int)→Option ab):Option ab:=
 Bt N a0 (fun iZ=>
  bif (!iZ) then
   kf ([]:(List Int))
  else
   aiK N a0 (fun gD=>
    aiQ N gD (fun aiR=>
     qY aiR (List.length aiR:Int) N kf ([]:(List Int)) (0:Int))))
noncomputable def arz (N:Nat) (a0:(List Int)) (a1:Int) (kf:(List Int)→Option ab):Option ab:=
 bif (List.isEmpty a0&&(decide ((0:Int)≤a1)&&decide (a1≤(549755813888:Int)))) then
  kf ([]:List Int)
 else none
noncomputable def l4 (jP:(List (List Int))) (adC:Int):Nat→((List Int)→Option ab)→(List Int)→Int→Option ab
 |0,_,_,_=>none
 |aw'+1,pP,mD,FD=>
  bif (decide (FD<adC)) then
   bif (bC FD (List.length jP)) then
    bif (decide ((List.length mD+List.length (List.getD jP (Int.toNat FD) ([]:(List Int))))*1≤4398046511104)) then
     (l4 jP adC aw' pP) (mD++(List.getD jP (Int.toNat FD) ([]:(List Int)))) (IntKind.wrap .i64 (FD+(1:Int)))
    else none
   else none
  else
   pP mD
noncomputable def qZ (af:(List (List Int))) (nG:(List (List Int))) (iT:Int):Nat→(Int→Option ab)→Int→Int→Option ab
 |0,_,_,_=>none
 |RL+1,cr,aR,OD=>
  bif (decide (OD<iT)) then
   bif (bC OD (List.length nG)) then
    bif (decide ((IntKind.wrap .i64 (aR+(List.length (List.getD nG (Int.toNat OD) ([]:(List Int))):Int)))<(0:Int))) then
     none
    else
     (qZ af nG iT RL cr) (IntKind.wrap .i64 (aR+(List.length (List.getD nG (Int.toNat OD) ([]:(List Int))):Int))) (IntKind.wrap .i64 (OD+(1:Int)))
   else none
  else
   cr aR
noncomputable def aiS (N:Nat) (a0:(List (List Int))) (kf:(List Int)→Option ab):Option ab:=
 qZ a0 a0 (List.length a0:Int) N (fun axa=>
  arz N ([]:(List Int)) axa (fun arA=>
   l4 a0 (List.length a0:Int) N kf arA (0:Int))) (0:Int) (0:Int)
noncomputable def aiT (N:Nat) (a0:(List QT)) (a1:Int) (a2:Int) (kf:cg→Option ab):Option ab:=
 HN N a0 a1 (fun OE=>
  HN N a0 a2 (fun OF=>
   Bt N a0 (fun OB=>
    bif (!OB) then
     kf ((0:Int),(0:Int))
    else
     bif (decide (OE<(0:Int))) then
      kf ((0:Int),(0:Int))
     else
      bif (decide (OF<(0:Int))) then
       kf ((0:Int),(0:Int))
      else
       bif (OE==OF) then
        kf ((0:Int),(0:Int))
       else
        bif (bC OE (List.length a0)) then
         bif (bC OF (List.length a0)) then
          adB N a0 (fun apB=>
           bif (decide ((List.getD a0 (Int.toNat OE) aC).2.2.2.2.1<(List.getD a0 (Int.toNat OF) aC).2.2.2.2.1)) then
            kf (a1,a2)
           else
            bif ((List.getD a0 (Int.toNat OE) aC).2.2.2.2.1==(List.getD a0 (Int.toNat OF) aC).2.2.2.2.1) then
             SQ N apB a1 (fun avt=>
              SQ N apB a2 (fun avu=>
               bif (decide (avt<avu)) then
                kf (a1,a2)
               else
                kf (a2,a1)))
            else
             kf (a2,a1))
         else none
        else none)))
noncomputable def q7 (N:Nat) (self:(List QT)→(List Int)→((List cg)→Bool→Option ab)→Option ab) (af:(List QT)) (aM:(List Int)):Nat→(Option ab)→((List cg)→Bool→Option ab)→Int→Option ab
 |0,_,_,_=>none
 |Bo+1,JU,JV,kg=>
  bif (decide (kg<(List.length aM:Int))) then
   bif (bC (0:Int) (List.length aM)) then
    bif (bC kg (List.length aM)) then
     I77 N af (List.getD aM (Int.toNat (0:Int)) (0:Int)) (List.getD aM (Int.toNat kg) (0:Int)) (fun avv=>
      bif (!avv) then
       (q7 N self af aM Bo JU JV) (IntKind.wrap .i64 (kg+(1:Int)))
      else
       bif (decide ((0:Int)≤(1:Int))&&decide ((1:Int)≤kg)&&decide (kg≤(List.length aM:Int))) then
        bif (decide ((0:Int)≤(IntKind.wrap .i64 (kg+(1:Int))))&&decide ((IntKind.wrap .i64 (kg+(1:Int)))≤(List.length aM:Int))&&decide ((List.length aM:Int)≤(List.length aM:Int))) then
         aiS N [(List.drop (Int.toNat (1:Int)) (List.take (Int.toNat kg) aM)),(List.drop (Int.toNat (IntKind.wrap .i64 (kg+(1:Int)))) (List.take (Int.toNat (List.length aM:Int)) aM))] (fun avw=>
          self af avw (fun apC avx=>
           bif avx then
            bif (bC (0:Int) (List.length aM)) then
             bif (bC kg (List.length aM)) then
              aiT N af (List.getD aM (Int.toNat (0:Int)) (0:Int)) (List.getD aM (Int.toNat kg) (0:Int)) (fun apD=>
               bif (decide ((List.length [apD]+List.length apC)*2≤4398046511104)) then
                JV ([apD]++apC) true
               else none)
             else none
            else none
           else
            (q7 N self af aM Bo JU JV) (IntKind.wrap .i64 (kg+(1:Int)))))
        else none
       else none)
    else none
   else none
  else
   JU
noncomputable def SY (self:(List QT)→(List Int)→((List cg)→Bool→Option ab)→Option ab) (N:Nat) (a0:(List QT)) (a1:(List Int)) (kf:(List cg)→Bool→Option ab):Option ab:=
 bif ((List.length a1:Int)==(0:Int)) then
  kf ([]:(List cg)) true
 else
  q7 N self a0 a1 N (kf ([]:(List cg)) false) kf (1:Int)
noncomputable def SZ:Nat→(List QT)→(List Int)→((List cg)→Bool→Option ab)→Option ab
 |0,_,_,_=>none
 |N+1,a0,a1,kf=>SY (SZ N) N a0 a1 kf
noncomputable def aiU (N:Nat) (a0:(List QT)) (kf:(List cg)→Bool→Option ab):Option ab:=
 Bt N a0 (fun Br=>
  bif (!Br) then
   kf ([]:(List cg)) false
  else
   bif ((Int.tmod (List.length a0:Int) (2:Int))==(1:Int)) then
    kf ([]:(List cg)) false
   else
    adB N a0 (fun pO=>
     SZ N a0 pO kf))
noncomputable def og (N:Nat) (self:(List QT)→(List QJ)→(List cg)→(List Int)→((List Int)→Bool→Option ab)→Option ab) (af:(List QT)) (aM:(List QJ)) (gy:(List cg)) (db:(List Int)) (vz:(List QJ)) (Wl:Int):Nat→(Option ab)→((List Int)→Bool→Option ab)→Int→Option ab
 |0,_,_,_=>none
 |n_8+1,oh,DS,tD=>
  bif (decide (tD<Wl)) then
   bif (bC tD (List.length vz)) then
    S82 N db (List.getD vz (Int.toNat tD) cY).1 (fun avy=>
     bif avy then
      (og N self af aM gy db vz Wl n_8 oh DS) (IntKind.wrap .i64 (tD+(1:Int)))
     else
      bif (bC (0:Int) (List.length gy)) then
       I83 N af (List.getD vz (Int.toNat tD) cY) (List.getD gy (Int.toNat (0:Int)) dz) (fun arB=>
        bif (!arB) then
         (og N self af aM gy db vz Wl n_8 oh DS) (IntKind.wrap .i64 (tD+(1:Int)))
        else
         bif (decide ((0:Int)≤(1:Int))&&decide ((1:Int)≤(List.length gy:Int))&&decide ((List.length gy:Int)≤(List.length gy:Int))) then
          JF N db (fun adD=>
           bif (decide ((List.length adD+List.length [(List.getD vz (Int.toNat tD) cY).1])*1≤4398046511104)) then
            self af aM (List.drop (Int.toNat (1:Int)) (List.take (Int.toNat (List.length gy:Int)) gy)) (adD++[(List.getD vz (Int.toNat tD) cY).1]) (fun adE arC=>
             bif arC then
              bif (decide ((List.length [(List.getD vz (Int.toNat tD) cY).1]+List.length adE)*1≤4398046511104)) then
               DS ([(List.getD vz (Int.toNat tD) cY).1]++adE) true
              else none
             else
              (og N self af aM gy db vz Wl n_8 oh DS) (IntKind.wrap .i64 (tD+(1:Int))))
           else none)
         else none)
      else none)
   else none
  else
   oh
noncomputable def S0 (self:(List QT)→(List QJ)→(List cg)→(List Int)→((List Int)→Bool→Option ab)→Option ab) (N:Nat) (a0:(List QT)) (a1:(List QJ)) (a2:(List cg)) (a3:(List Int)) (kf:(List Int)→Bool→Option ab):Option ab:=
 bif ((List.length a2:Int)==(0:Int)) then
  kf ([]:(List Int)) true
 else
  og N self a0 a1 a2 a3 a1 (List.length a1:Int) N (kf ([]:(List Int)) false) kf (0:Int)
noncomputable def S4:Nat→(List QT)→(List QJ)→(List cg)→(List Int)→((List Int)→Bool→Option ab)→Option ab
 |0,_,_,_,_,_=>none
 |N+1,a0,a1,a2,a3,kf=>S0 (S4 N) N a0 a1 a2 a3 kf
noncomputable def aiV (N:Nat) (a0:(List QT)) (a1:(List QJ)) (a2:(List cg)) (kf:(List Int)→Bool→Option ab):Option ab:=
 I79 N a1 (fun iZ=>
  bif (!iZ) then
   kf ([]:(List Int)) false
  else
   Bt N a0 (fun gD=>
    bif (!gD) then
     kf ([]:(List Int)) false
    else
     bif (decide ((List.length a2:Int)>(List.length a1:Int))) then
      kf ([]:(List Int)) false
     else
      S4 N a0 a1 a2 ([]:(List Int)) kf))
noncomputable def I23 (N:Nat) (a0:QC) (kf:QC→Bool→Option ab):Option ab:=
 JG N a0 (fun eW=>
  RM N a0 (fun Oy=>
   bif (!Oy) then
    kf eW false
   else
    Om N a0 (fun sj=>
     bif sj then
      kf eW false
     else
      bif ((List.length a0.1:Int)==(0:Int)) then
       kf eW false
      else
       aiU N a0.1 (fun FE adF=>
        aiV N a0.1 a0.2.1 FE (fun avz avA=>
         bif (!adF) then
          kf eW false
         else
          bif (!avA) then
           kf eW false
          else
           bif (decide ((List.length FE:Int)=(List.length FE:Int))&&decide ((0:Int)≤(List.length FE:Int))&&decide ((List.length FE:Int)≤1099511627776)) then
            JO N a0 (eW.1,(eW.2.1,(FE,(avz,((List.replicate (Int.toNat (List.length FE:Int)) ((0:Int),((0:Int),(0:Int)))),eW.2.2.2.2.2))))) (3:Int) (0:Int) kf
           else none)))))
noncomputable def I35 (N:Nat) (a0:QC) (a1:Int) (a2:Int) (a3:Int) (kf:QC→Bool→Option ab):Option ab:=
 JG N a0 (fun fm=>
  RM N a0 (fun OA=>
   bif (!OA) then
    kf fm false
   else
    bif (decide (a1<(0:Int))) then
     kf fm false
    else
     bif (decide (a1≥(List.length a0.2.2.1:Int))) then
      kf fm false
     else
      bif (bC a1 (List.length a0.2.2.2.2.1)) then
       bif (!((decide (((List.getD a0.2.2.2.2.1 (Int.toNat a1) gU).1:Int)=(0:Int)))&&((decide (((List.getD a0.2.2.2.2.1 (Int.toNat a1) gU).2.1:Int)=(0:Int)))&&(decide (((List.getD a0.2.2.2.2.1 (Int.toNat a1) gU).2.2:Int)=(0:Int)))))) then
        kf fm false
       else
        bif (bC a1 (List.length a0.2.2.2.1)) then
         Ov N ((List.getD a0.2.2.2.1 (Int.toNat a1) (0:Int)),(a2,a3)) (fun avB=>
          bif (!avB) then
           kf fm false
          else
           bif (bC a1 (List.length fm.2.2.2.2.1)) then
            JO N a0 (fm.1,(fm.2.1,(fm.2.2.1,(fm.2.2.2.1,((List.set fm.2.2.2.2.1 (Int.toNat a1) ((List.getD a0.2.2.2.1 (Int.toNat a1) (0:Int)),(a2,a3))),fm.2.2.2.2.2))))) (4:Int) (List.getD a0.2.2.2.1 (Int.toNat a1) (0:Int)) kf
           else none)
        else none
      else none))
noncomputable def tE (iO:(List QB)) (nG:Int):Nat→((List Int)→Option ab)→(List Int)→Int→Option ab
 |0,_,_,_=>none
 |kX+1,cr,cj,iT=>
  bif (decide (iT<nG)) then
   bif (bC iT (List.length iO)) then
    bif ((decide (((List.getD iO (Int.toNat iT) gU).1:Int)=(0:Int)))&&((decide (((List.getD iO (Int.toNat iT) gU).2.1:Int)=(0:Int)))&&(decide (((List.getD iO (Int.toNat iT) gU).2.2:Int)=(0:Int))))) then
     bif (decide ((List.length cj+List.length [iT])*1≤4398046511104)) then
      (tE iO nG kX cr) (cj++[iT]) (IntKind.wrap .i64 (iT+(1:Int)))
     else none
    else
     (tE iO nG kX cr) cj (IntKind.wrap .i64 (iT+(1:Int)))
   else none
  else
   cr cj
noncomputable def I41 (N:Nat) (a0:QC) (kf:(List Int)→Option ab):Option ab:=
 tE a0.2.2.2.2.1 (List.length a0.2.2.2.2.1:Int) N kf ([]:(List Int)) (0:Int)
noncomputable def om (N:Nat) (af:(List QB)) (iO:(List QB)) (nG:Int):Nat→(Option ab)→(Bool→Option ab)→Int→Option ab
 |0,_,_,_=>none
 |kX+1,dE,eX,iT=>
  bif (decide (iT<nG)) then
   bif (bC iT (List.length iO)) then
    Ov N (List.getD iO (Int.toNat iT) gU) (fun nB=>
     bif (!nB) then
      eX false
     else
      bif (decide (iT>(0:Int))) then
       bif (bC (IntKind.wrap .i64 (iT - (1:Int))) (List.length af)) then
        bif (decide ((List.getD iO (Int.toNat iT) gU).1≤(List.getD af (Int.toNat (IntKind.wrap .i64 (iT - (1:Int)))) gU).1)) then
         eX false
        else
         (om N af iO nG kX dE eX) (IntKind.wrap .i64 (iT+(1:Int)))
       else none
      else
       (om N af iO nG kX dE eX) (IntKind.wrap .i64 (iT+(1:Int))))
   else none
  else
   dE
noncomputable def ZA (N:Nat) (a0:(List QB)) (kf:Bool→Option ab):Option ab:=
 bif (decide ((List.length a0:Int)>(9:Int))) then
  kf false
 else
  om N a0 a0 (List.length a0:Int) N (kf true) kf (0:Int)
noncomputable def ZB (N:Nat) (a0:QB) (kf:Int→Option ab):Option ab:=
 bif (decide (a0.2.1>a0.2.2)) then
  kf (1:Int)
 else
  kf (2:Int)
noncomputable def oo (N:Nat) (aM:Int) (cB:(List QB)) (ld:Int):Nat→(Int→Option ab)→Int→Int→Option ab
 |0,_,_,_=>none
 |n_7+1,fX,bH,pQ=>
  bif (decide (pQ<ld)) then
   bif (bC pQ (List.length cB)) then
    ZB N (List.getD cB (Int.toNat pQ) gU) (fun adG=>
     bif (adG==aM) then
      (oo N aM cB ld n_7 fX) (IntKind.wrap .i64 (bH+(1:Int))) (IntKind.wrap .i64 (pQ+(1:Int)))
     else
      (oo N aM cB ld n_7 fX) bH (IntKind.wrap .i64 (pQ+(1:Int))))
   else none
  else
   fX bH
noncomputable def adH (N:Nat) (a0:(List QB)) (a1:Int) (kf:Int→Option ab):Option ab:=
 ZA N a0 (fun iZ=>
  bif (!iZ) then
   kf (0:Int)
  else
   oo N a1 a0 (List.length a0:Int) N kf (0:Int) (0:Int))
noncomputable def mO (aM:Int) (cB:(List QB)) (ld:Int):Nat→(Int→Option ab)→Int→Int→Option ab
 |0,_,_,_=>none
 |n_7+1,jM,bH,pQ=>
  bif (decide (pQ<ld)) then
   bif (bC pQ (List.length cB)) then
    bif (aM==(1:Int)) then
     (mO aM cB ld n_7 jM) (IntKind.wrap .i64 (bH+(List.getD cB (Int.toNat pQ) gU).2.1)) (IntKind.wrap .i64 (pQ+(1:Int)))
    else
     bif (aM==(2:Int)) then
      (mO aM cB ld n_7 jM) (IntKind.wrap .i64 (bH+(List.getD cB (Int.toNat pQ) gU).2.2)) (IntKind.wrap .i64 (pQ+(1:Int)))
     else
      (mO aM cB ld n_7 jM) bH (IntKind.wrap .i64 (pQ+(1:Int)))
   else none
  else
   jM bH
noncomputable def S5 (N:Nat) (a0:(List QB)) (a1:Int) (kf:Int→Option ab):Option ab:=
 ZA N a0 (fun iZ=>
  bif (!iZ) then
   kf (0:Int)
  else
   mO a1 a0 (List.length a0:Int) N kf (0:Int) (0:Int))
noncomputable def Wm (N:Nat) (a0:(List QB)) (kf:Int→Option ab):Option ab:=
 bif (bC (0:Int) (List.length a0)) then
  ZB N (List.getD a0 (Int.toNat (0:Int)) gU) kf
 else none
noncomputable def ZC (N:Nat) (a0:(List QB)) (kf:Int→Option ab):Option ab:=
 bif ((List.length a0:Int)==(0:Int)) then
  kf (0:Int)
 else
  ZA N a0 (fun eW=>
   bif (!eW) then
    kf (0:Int)
   else
    adH N a0 (1:Int) (fun dt=>
     adH N a0 (2:Int) (fun sj=>
      S5 N a0 (1:Int) (fun FF=>
       S5 N a0 (2:Int) (fun adI=>
        bif (decide ((IntKind.wrap .i64 (dt - sj))>(0:Int))) then
         kf (1:Int)
        else
         bif ((IntKind.wrap .i64 (dt - sj))==(0:Int)) then
          bif (decide ((IntKind.wrap .i64 (FF - adI))>(0:Int))) then
           kf (1:Int)
          else
           bif (decide ((IntKind.wrap .i64 (dt - sj))<(0:Int))) then
            kf (2:Int)
           else
            bif (decide ((IntKind.wrap .i64 (FF - adI))<(0:Int))) then
             kf (2:Int)
            else
             Wm N a0 kf
         else
          bif (decide ((IntKind.wrap .i64 (dt - sj))<(0:Int))) then
           kf (2:Int)
          else
           bif (decide ((IntKind.wrap .i64 (FF - adI))<(0:Int))) then
            kf (2:Int)
           else
            Wm N a0 kf)))))
noncomputable def JW (N:Nat) (a0:(List QT)) (a4:Int) (a5:Int) (kf:(List QT)→Bool→Option ab) (ae:Int) (aV:Int) (bZ:(List QT)):Option ab:=
 bif (bC ae (List.length bZ)) then
  bif (bC ae (List.length bZ)) then
   bif (bC aV (List.length (List.set bZ (Int.toNat ae) ((List.getD bZ (Int.toNat ae) aC).1,((List.getD bZ (Int.toNat ae) aC).2.1,((List.getD bZ (Int.toNat ae) aC).2.2.1,((IntKind.wrap .i64 ((List.getD bZ (Int.toNat ae) aC).2.2.2.1+a4)),(List.getD bZ (Int.toNat ae) aC).2.2.2.2))))))) then
    bif (bC aV (List.length (List.set bZ (Int.toNat ae) ((List.getD bZ (Int.toNat ae) aC).1,((List.getD bZ (Int.toNat ae) aC).2.1,((List.getD bZ (Int.toNat ae) aC).2.2.1,((IntKind.wrap .i64 ((List.getD bZ (Int.toNat ae) aC).2.2.2.1+a4)),(List.getD bZ (Int.toNat ae) aC).2.2.2.2))))))) then
     share (List.set (List.set bZ (Int.toNat ae) ((List.getD bZ (Int.toNat ae) aC).1,((List.getD bZ (Int.toNat ae) aC).2.1,((List.getD bZ (Int.toNat ae) aC).2.2.1,((IntKind.wrap .i64 ((List.getD bZ (Int.toNat ae) aC).2.2.2.1+a4)),(List.getD bZ (Int.toNat ae) aC).2.2.2.2))))) (Int.toNat aV) ((List.getD (List.set bZ (Int.toNat ae) ((List.getD bZ (Int.toNat ae) aC).1,((List.getD bZ (Int.toNat ae) aC).2.1,((List.getD bZ (Int.toNat ae) aC).2.2.1,((IntKind.wrap .i64 ((List.getD bZ (Int.toNat ae) aC).2.2.2.1+a4)),(List.getD bZ (Int.toNat ae) aC).2.2.2.2))))) (Int.toNat aV) aC).1,((List.getD (List.set bZ (Int.toNat ae) ((List.getD bZ (Int.toNat ae) aC).1,((List.getD bZ (Int.toNat ae) aC).2.1,((List.getD bZ (Int.toNat ae) aC).2.2.1,((IntKind.wrap .i64 ((List.getD bZ (Int.toNat ae) aC).2.2.2.1+a4)),(List.getD bZ (Int.toNat ae) aC).2.2.2.2))))) (Int.toNat aV) aC).2.1,((List.getD (List.set bZ (Int.toNat ae) ((List.getD bZ (Int.toNat ae) aC).1,((List.getD bZ (Int.toNat ae) aC).2.1,((List.getD bZ (Int.toNat ae) aC).2.2.1,((IntKind.wrap .i64 ((List.getD bZ (Int.toNat ae) aC).2.2.2.1+a4)),(List.getD bZ (Int.toNat ae) aC).2.2.2.2))))) (Int.toNat aV) aC).2.2.1,((IntKind.wrap .i64 ((List.getD (List.set bZ (Int.toNat ae) ((List.getD bZ (Int.toNat ae) aC).1,((List.getD bZ (Int.toNat ae) aC).2.1,((List.getD bZ (Int.toNat ae) aC).2.2.1,((IntKind.wrap .i64 ((List.getD bZ (Int.toNat ae) aC).2.2.2.1+a4)),(List.getD bZ (Int.toNat ae) aC).2.2.2.2))))) (Int.toNat aV) aC).2.2.2.1+a5)),(List.getD (List.set bZ (Int.toNat ae) ((List.getD bZ (Int.toNat ae) aC).1,((List.getD bZ (Int.toNat ae) aC).2.1,((List.getD bZ (Int.toNat ae) aC).2.2.1,((IntKind.wrap .i64 ((List.getD bZ (Int.toNat ae) aC).2.2.2.1+a4)),(List.getD bZ (Int.toNat ae) aC).2.2.2.2))))) (Int.toNat aV) aC).2.2.2.2))))) (fun adJ=>
      Bt N adJ (fun JX=>
       bif (!JX) then
        SH N a0 (fun JY=>
         kf JY false)
       else
        kf adJ true))
    else none
   else none
  else none
 else none
noncomputable def ZD (N:Nat) (a0:(List QT)) (a1:Int) (a2:Int) (a3:Int) (a4:Int) (a5:Int) (kf:(List QT)→Bool→Option ab):Option ab:=
 SH N a0 (fun aW=>
  HN N a0 a1 (fun ae=>
   HN N a0 a2 (fun aV=>
    Bt N a0 (fun FH=>
     bif (!FH) then
      kf aW false
     else
      bif (decide (ae<(0:Int))) then
       kf aW false
      else
       bif (decide (aV<(0:Int))) then
        kf aW false
       else
        bif (ae==aV) then
         kf aW false
        else
         fR N a3 (1:Int) (2:Int) (fun OG=>
          bif (!OG) then
           kf aW false
          else
           fR N a4 (0:Int) (1000:Int) (fun adK=>
            bif (!adK) then
             kf aW false
            else
             fR N a5 (0:Int) (1000:Int) (fun adL=>
              bif (!adL) then
               kf aW false
              else
               bif (bC ae (List.length aW)) then
                bif (bC aV (List.length aW)) then
                 bif (decide ((List.length (List.getD aW (Int.toNat ae) aC).2.2.2.2.2+List.length [a2])*1≤4398046511104)) then
                  bif ((!(Nat.beq (Int.toNat ae) (Int.toNat aV)))&&true) then
                   bif (decide ((List.length (List.getD aW (Int.toNat aV) aC).2.2.2.2.2+List.length [a1])*1≤4398046511104)) then
                    bif (bC ae (List.length aW)) then
                     bif (Nat.beq (Int.toNat ae) (Int.toNat ae)) then
                      bif (bC aV (List.length (List.set aW (Int.toNat ae) ((List.getD aW (Int.toNat ae) aC).1,((List.getD aW (Int.toNat ae) aC).2.1,((List.getD aW (Int.toNat ae) aC).2.2.1,((List.getD aW (Int.toNat ae) aC).2.2.2.1,((List.getD aW (Int.toNat ae) aC).2.2.2.2.1,((List.getD aW (Int.toNat ae) aC).2.2.2.2.2++[a2]))))))))) then
                       bif (Nat.beq (Int.toNat aV) (Int.toNat aV)) then
                        share (List.set (List.set aW (Int.toNat ae) ((List.getD aW (Int.toNat ae) aC).1,((List.getD aW (Int.toNat ae) aC).2.1,((List.getD aW (Int.toNat ae) aC).2.2.1,((List.getD aW (Int.toNat ae) aC).2.2.2.1,((List.getD aW (Int.toNat ae) aC).2.2.2.2.1,((List.getD aW (Int.toNat ae) aC).2.2.2.2.2++[a2]))))))) (Int.toNat aV) ((List.getD (List.set aW (Int.toNat ae) ((List.getD aW (Int.toNat ae) aC).1,((List.getD aW (Int.toNat ae) aC).2.1,((List.getD aW (Int.toNat ae) aC).2.2.1,((List.getD aW (Int.toNat ae) aC).2.2.2.1,((List.getD aW (Int.toNat ae) aC).2.2.2.2.1,((List.getD aW (Int.toNat ae) aC).2.2.2.2.2++[a2]))))))) (Int.toNat aV) aC).1,((List.getD (List.set aW (Int.toNat ae) ((List.getD aW (Int.toNat ae) aC).1,((List.getD aW (Int.toNat ae) aC).2.1,((List.getD aW (Int.toNat ae) aC).2.2.1,((List.getD aW (Int.toNat ae) aC).2.2.2.1,((List.getD aW (Int.toNat ae) aC).2.2.2.2.1,((List.getD aW (Int.toNat ae) aC).2.2.2.2.2++[a2]))))))) (Int.toNat aV) aC).2.1,((List.getD (List.set aW (Int.toNat ae) ((List.getD aW (Int.toNat ae) aC).1,((List.getD aW (Int.toNat ae) aC).2.1,((List.getD aW (Int.toNat ae) aC).2.2.1,((List.getD aW (Int.toNat ae) aC).2.2.2.1,((List.getD aW (Int.toNat ae) aC).2.2.2.2.1,((List.getD aW (Int.toNat ae) aC).2.2.2.2.2++[a2]))))))) (Int.toNat aV) aC).2.2.1,((List.getD (List.set aW (Int.toNat ae) ((List.getD aW (Int.toNat ae) aC).1,((List.getD aW (Int.toNat ae) aC).2.1,((List.getD aW (Int.toNat ae) aC).2.2.1,((List.getD aW (Int.toNat ae) aC).2.2.2.1,((List.getD aW (Int.toNat ae) aC).2.2.2.2.1,((List.getD aW (Int.toNat ae) aC).2.2.2.2.2++[a2]))))))) (Int.toNat aV) aC).2.2.2.1,((List.getD (List.set aW (Int.toNat ae) ((List.getD aW (Int.toNat ae) aC).1,((List.getD aW (Int.toNat ae) aC).2.1,((List.getD aW (Int.toNat ae) aC).2.2.1,((List.getD aW (Int.toNat ae) aC).2.2.2.1,((List.getD aW (Int.toNat ae) aC).2.2.2.2.1,((List.getD aW (Int.toNat ae) aC).2.2.2.2.2++[a2]))))))) (Int.toNat aV) aC).2.2.2.2.1,((List.getD aW (Int.toNat aV) aC).2.2.2.2.2++[a1]))))))) (fun aO=>
                         bif (bC ae (List.length aO)) then
                          bif (bC ae (List.length aO)) then
                           bif (a3==(1:Int)) then
                            bif (bC ae (List.length (List.set aO (Int.toNat ae) ((List.getD aO (Int.toNat ae) aC).1,((List.getD aO (Int.toNat ae) aC).2.1,((List.getD aO (Int.toNat ae) aC).2.2.1,((List.getD aO (Int.toNat ae) aC).2.2.2.1,((IntKind.wrap .i64 ((List.getD aO (Int.toNat ae) aC).2.2.2.2.1+(1:Int))),(List.getD aO (Int.toNat ae) aC).2.2.2.2.2)))))))) then
                             bif (bC ae (List.length (List.set aO (Int.toNat ae) ((List.getD aO (Int.toNat ae) aC).1,((List.getD aO (Int.toNat ae) aC).2.1,((List.getD aO (Int.toNat ae) aC).2.2.1,((List.getD aO (Int.toNat ae) aC).2.2.2.1,((IntKind.wrap .i64 ((List.getD aO (Int.toNat ae) aC).2.2.2.2.1+(1:Int))),(List.getD aO (Int.toNat ae) aC).2.2.2.2.2)))))))) then
                              share (List.set (List.set aO (Int.toNat ae) ((List.getD aO (Int.toNat ae) aC).1,((List.getD aO (Int.toNat ae) aC).2.1,((List.getD aO (Int.toNat ae) aC).2.2.1,((List.getD aO (Int.toNat ae) aC).2.2.2.1,((IntKind.wrap .i64 ((List.getD aO (Int.toNat ae) aC).2.2.2.2.1+(1:Int))),(List.getD aO (Int.toNat ae) aC).2.2.2.2.2)))))) (Int.toNat ae) ((List.getD (List.set aO (Int.toNat ae) ((List.getD aO (Int.toNat ae) aC).1,((List.getD aO (Int.toNat ae) aC).2.1,((List.getD aO (Int.toNat ae) aC).2.2.1,((List.getD aO (Int.toNat ae) aC).2.2.2.1,((IntKind.wrap .i64 ((List.getD aO (Int.toNat ae) aC).2.2.2.2.1+(1:Int))),(List.getD aO (Int.toNat ae) aC).2.2.2.2.2)))))) (Int.toNat ae) aC).1,((List.getD (List.set aO (Int.toNat ae) ((List.getD aO (Int.toNat ae) aC).1,((List.getD aO (Int.toNat ae) aC).2.1,((List.getD aO (Int.toNat ae) aC).2.2.1,((List.getD aO (Int.toNat ae) aC).2.2.2.1,((IntKind.wrap .i64 ((List.getD aO (Int.toNat ae) aC).2.2.2.2.1+(1:Int))),(List.getD aO (Int.toNat ae) aC).2.2.2.2.2)))))) (Int.toNat ae) aC).2.1,((IntKind.wrap .i64 ((List.getD (List.set aO (Int.toNat ae) ((List.getD aO (Int.toNat ae) aC).1,((List.getD aO (Int.toNat ae) aC).2.1,((List.getD aO (Int.toNat ae) aC).2.2.1,((List.getD aO (Int.toNat ae) aC).2.2.2.1,((IntKind.wrap .i64 ((List.getD aO (Int.toNat ae) aC).2.2.2.2.1+(1:Int))),(List.getD aO (Int.toNat ae) aC).2.2.2.2.2)))))) (Int.toNat ae) aC).2.2.1+(1:Int))),(List.getD (List.set aO (Int.toNat ae) ((List.getD aO (Int.toNat ae) aC).1,((List.getD aO (Int.toNat ae) aC).2.1,((List.getD aO (Int.toNat ae) aC).2.2.1,((List.getD aO (Int.toNat ae) aC).2.2.2.1,((IntKind.wrap .i64 ((List.getD aO (Int.toNat ae) aC).2.2.2.2.1+(1:Int))),(List.getD aO (Int.toNat ae) aC).2.2.2.2.2)))))) (Int.toNat ae) aC).2.2.2)))) (fun bG=>
                               JW N a0 a4 a5 kf ae aV bG)
                             else none
                            else none
                           else
                            bif (bC aV (List.length (List.set aO (Int.toNat ae) ((List.getD aO (Int.toNat ae) aC).1,((List.getD aO (Int.toNat ae) aC).2.1,((List.getD aO (Int.toNat ae) aC).2.2.1,((List.getD aO (Int.toNat ae) aC).2.2.2.1,((IntKind.wrap .i64 ((List.getD aO (Int.toNat ae) aC).2.2.2.2.1+(1:Int))),(List.getD aO (Int.toNat ae) aC).2.2.2.2.2)))))))) then
                             bif (bC aV (List.length (List.set aO (Int.toNat ae) ((List.getD aO (Int.toNat ae) aC).1,((List.getD aO (Int.toNat ae) aC).2.1,((List.getD aO (Int.toNat ae) aC).2.2.1,((List.getD aO (Int.toNat ae) aC).2.2.2.1,((IntKind.wrap .i64 ((List.getD aO (Int.toNat ae) aC).2.2.2.2.1+(1:Int))),(List.getD aO (Int.toNat ae) aC).2.2.2.2.2)))))))) then
                              share (List.set (List.set aO (Int.toNat ae) ((List.getD aO (Int.toNat ae) aC).1,((List.getD aO (Int.toNat ae) aC).2.1,((List.getD aO (Int.toNat ae) aC).2.2.1,((List.getD aO (Int.toNat ae) aC).2.2.2.1,((IntKind.wrap .i64 ((List.getD aO (Int.toNat ae) aC).2.2.2.2.1+(1:Int))),(List.getD aO (Int.toNat ae) aC).2.2.2.2.2)))))) (Int.toNat aV) ((List.getD (List.set aO (Int.toNat ae) ((List.getD aO (Int.toNat ae) aC).1,((List.getD aO (Int.toNat ae) aC).2.1,((List.getD aO (Int.toNat ae) aC).2.2.1,((List.getD aO (Int.toNat ae) aC).2.2.2.1,((IntKind.wrap .i64 ((List.getD aO (Int.toNat ae) aC).2.2.2.2.1+(1:Int))),(List.getD aO (Int.toNat ae) aC).2.2.2.2.2)))))) (Int.toNat aV) aC).1,((List.getD (List.set aO (Int.toNat ae) ((List.getD aO (Int.toNat ae) aC).1,((List.getD aO (Int.toNat ae) aC).2.1,((List.getD aO (Int.toNat ae) aC).2.2.1,((List.getD aO (Int.toNat ae) aC).2.2.2.1,((IntKind.wrap .i64 ((List.getD aO (Int.toNat ae) aC).2.2.2.2.1+(1:Int))),(List.getD aO (Int.toNat ae) aC).2.2.2.2.2)))))) (Int.toNat aV) aC).2.1,((IntKind.wrap .i64 ((List.getD (List.set aO (Int.toNat ae) ((List.getD aO (Int.toNat ae) aC).1,((List.getD aO (Int.toNat ae) aC).2.1,((List.getD aO (Int.toNat ae) aC).2.2.1,((List.getD aO (Int.toNat ae) aC).2.2.2.1,((IntKind.wrap .i64 ((List.getD aO (Int.toNat ae) aC).2.2.2.2.1+(1:Int))),(List.getD aO (Int.toNat ae) aC).2.2.2.2.2)))))) (Int.toNat aV) aC).2.2.1+(1:Int))),(List.getD (List.set aO (Int.toNat ae) ((List.getD aO (Int.toNat ae) aC).1,((List.getD aO (Int.toNat ae) aC).2.1,((List.getD aO (Int.toNat ae) aC).2.2.1,((List.getD aO (Int.toNat ae) aC).2.2.2.1,((IntKind.wrap .i64 ((List.getD aO (Int.toNat ae) aC).2.2.2.2.1+(1:Int))),(List.getD aO (Int.toNat ae) aC).2.2.2.2.2)))))) (Int.toNat aV) aC).2.2.2)))) (fun S6=>
                               JW N a0 a4 a5 kf ae aV S6)
                             else none
                            else none
                          else none
                         else none)
                       else none
                      else none
                     else none
                    else none
                   else none
                  else none
                 else none
                else none
               else none)))))))
noncomputable def ZE (N:Nat) (a0:(List Int)) (kf:(List Int)→Option ab):Option ab:=
 bif (Nat.blt (List.length a0) 4611686018427387904) then
  kf (mC a0)
 else none
noncomputable def adM (N:Nat) (a0:(List Int)) (kf:(List Int)→Option ab):Option ab:=
 kf (eF a0)
noncomputable def wA (N:Nat) (jO:QC) (Zz:QC) (gM:(List cg)) (adN:Int):Nat→(QC→Option ab)→(QC→Bool→Option ab)→QC→Int→Option ab
 |0,_,_,_,_=>none
 |arD+1,uB,uC,jt,jQ=>
  bif (decide (jQ<adN)) then
   bif (bC jQ (List.length gM)) then
    bif (bC jQ (List.length jO.2.2.2.2.1)) then
     ZC N [(List.getD jO.2.2.2.2.1 (Int.toNat jQ) gU)] (fun FJ=>
      ZD N jt.1 (List.getD gM (Int.toNat jQ) dz).1 (List.getD gM (Int.toNat jQ) dz).2 FJ (List.getD jO.2.2.2.2.1 (Int.toNat jQ) gU).2.1 (List.getD jO.2.2.2.2.1 (Int.toNat jQ) gU).2.2 (fun FK FL=>
       bif (!FL) then
        JG N jO (fun FM=>
         uC FM false)
       else
        bif (bC jQ (List.length jO.2.2.2.1)) then
         SX N jt.2.1 (List.getD jO.2.2.2.1 (Int.toNat jQ) (0:Int)) (fun dF=>
          bif (bC dF (List.length jt.2.1)) then
           bif (decide ((List.length (List.getD jt.2.1 (Int.toNat dF) cY).2.2+List.length [(List.getD gM (Int.toNat jQ) dz).1,(List.getD gM (Int.toNat jQ) dz).2])*1≤4398046511104)) then
            ZE N ((List.getD jt.2.1 (Int.toNat dF) cY).2.2++[(List.getD gM (Int.toNat jQ) dz).1,(List.getD gM (Int.toNat jQ) dz).2]) (fun FN=>
             adM N FN (fun FP=>
              bif (bC dF (List.length jt.2.1)) then
               bif (Nat.beq (Int.toNat dF) (Int.toNat dF)) then
                (wA N jO Zz gM adN arD uB uC) (FK,((List.set jt.2.1 (Int.toNat dF) ((List.getD jt.2.1 (Int.toNat dF) cY).1,((List.getD jt.2.1 (Int.toNat dF) cY).2.1,FP))),jt.2.2)) (IntKind.wrap .i64 (jQ+(1:Int)))
               else none
              else none))
           else none
          else none)
        else none))
    else none
   else none
  else
   uB jt
noncomputable def I28 (N:Nat) (a0:QC) (kf:QC→Bool→Option ab):Option ab:=
 RM N a0 (fun vA=>
  bif (!vA) then
   JG N a0 (fun FH=>
    kf FH false)
  else
   Om N a0 (fun pO=>
    bif (!pO) then
     JG N a0 (fun FH=>
      kf FH false)
    else
     I41 N a0 (fun avC=>
      bif (decide ((List.length avC:Int)>(0:Int))) then
       JG N a0 (fun avD=>
        kf avD false)
      else
       JG N a0 (fun avE=>
        wA N a0 (([]:(List QT)),(([]:(List QJ)),(([]:(List cg)),(([]:(List Int)),(([]:(List QB)),(([]:(List QL)),(0:Int))))))) a0.2.2.1 (List.length a0.2.2.1:Int) N (fun Wn=>
         JO N a0 (Wn.1,(Wn.2.1,(([]:(List cg)),(([]:(List Int)),(([]:(List QB)),(Wn.2.2.2.2.2.1,(IntKind.wrap .i64 (Wn.2.2.2.2.2.2+(List.length a0.2.2.1:Int))))))))) (5:Int) (0:Int) kf) kf avE (0:Int)))))
noncomputable def arE (N:Nat) (a0:(List QT)) (a1:Int) (a2:Int) (kf:(List QT)→Option ab):Option ab:=
 bif (decide ((0:Int)≤a1)&&(decide (a1≤a2)&&decide (a2≤(List.length a0:Int)))) then
  kf (List.take (Int.toNat a1) a0++List.drop (Int.toNat a2) a0)
 else none
noncomputable def I38 (N:Nat) (a0:QC) (a1:Int) (kf:QC→Bool→Option ab):Option ab:=
 JG N a0 (fun iZ=>
  HN N a0.1 a1 (fun gD=>
   bif (decide (gD<(0:Int))) then
    kf iZ false
   else
    bif (bC gD (List.length a0.1)) then
     bif (decide ((List.length (List.getD a0.1 (Int.toNat gD) aC).2.2.2.2.2:Int)>(0:Int))) then
      kf iZ false
     else
      Om N a0 (fun adO=>
       bif adO then
        kf iZ false
       else
        arE N iZ.1 gD (IntKind.wrap .i64 (gD+(1:Int))) (fun adP=>
         JO N a0 (adP,iZ.2) (6:Int) a1 kf))
    else none))
noncomputable def sk (N:Nat) (a0:QC) (a1:QL) (kf:QC→Bool→Option ab):Option ab:=
 bif (a1.1==(1:Int)) then
  I30 N a0 a1.2.1 a1.2.2.1 kf
 else
  bif (a1.1==(2:Int)) then
   I32 N a0 a1.2.1 a1.2.2.1 kf
  else
   bif (a1.1==(3:Int)) then
    I23 N a0 kf
   else
    bif (a1.1==(4:Int)) then
     I35 N a0 a1.2.2.2 a1.2.1 a1.2.2.1 kf
    else
     bif (a1.1==(5:Int)) then
      I28 N a0 kf
     else
      bif (a1.1==(6:Int)) then
       I38 N a0 a1.2.1 kf
      else
       JG N a0 (fun ay=>
        kf ay false)
noncomputable def wB (af:(List QL)) (aM:(List QL)) (tF:Int):Nat→(Option ab)→(Bool→Option ab)→Int→Option ab
 |0,_,_,_=>none
 |kX+1,dX,dY,dG=>
  bif (decide (dG<tF)) then
   bif (bC dG (List.length af)) then
    bif (bC dG (List.length aM)) then
     bif (!((decide (((List.getD af (Int.toNat dG) Bm).1:Int)=(List.getD aM (Int.toNat dG) Bm).1))&&((decide (((List.getD af (Int.toNat dG) Bm).2.1:Int)=(List.getD aM (Int.toNat dG) Bm).2.1))&&((decide (((List.getD af (Int.toNat dG) Bm).2.2.1:Int)=(List.getD aM (Int.toNat dG) Bm).2.2.1))&&(decide (((List.getD af (Int.toNat dG) Bm).2.2.2:Int)=(List.getD aM (Int.toNat dG) Bm).2.2.2)))))) then
      dY false
     else
      (wB af aM tF kX dX dY) (IntKind.wrap .i64 (dG+(1:Int)))
    else none
   else none
  else
   dX
noncomputable def S76 (N:Nat) (a0:(List QL)) (a1:(List QL)) (kf:Bool→Option ab):Option ab:=
 bif ((List.length a0:Int) != (List.length a1:Int)) then
  kf false
 else
  wB a0 a1 (List.length a0:Int) N (kf true) kf (0:Int)
noncomputable def I15 (N:Nat) (a0:(List QL)) (a1:(List QL)) (kf:Bool→Option ab):Option ab:=
 I75 N a0 (fun arF=>
  bif arF then
   I75 N a1 (fun Ow=>
    bif Ow then
     bif (decide ((List.length a0:Int)≥(List.length a1:Int))) then
      bif (decide ((0:Int)≤(0:Int))&&decide ((0:Int)≤(List.length a1:Int))&&decide ((List.length a1:Int)≤(List.length a0:Int))) then
       S76 N (List.drop (Int.toNat (0:Int)) (List.take (Int.toNat (List.length a1:Int)) a0)) a1 kf
      else none
     else
      kf false
    else
     kf false)
  else
   kf false)
noncomputable def q8 (af:(List QT)):Nat→((List QT)→Option ab)→(List QT)→Int→Option ab
 |0,_,_,_=>none
 |Bo+1,iI,aR,cL=>
  bif (decide (cL<(List.length af:Int))) then
   bif (bC cL (List.length af)) then
    bif (decide ((List.length ([]:(List Int))+List.length (List.getD af (Int.toNat cL) aC).2.2.2.2.2)*1≤4398046511104)) then
     bif (decide ((List.length aR+List.length [((List.getD af (Int.toNat cL) aC).1,((List.getD af (Int.toNat cL) aC).2.1,((List.getD af (Int.toNat cL) aC).2.2.1,((List.getD af (Int.toNat cL) aC).2.2.2.1,((List.getD af (Int.toNat cL) aC).2.2.2.2.1,(([]:(List Int))++(List.getD af (Int.toNat cL) aC).2.2.2.2.2))))))])*6≤4398046511104)) then
      (q8 af Bo iI) (aR++[((List.getD af (Int.toNat cL) aC).1,((List.getD af (Int.toNat cL) aC).2.1,((List.getD af (Int.toNat cL) aC).2.2.1,((List.getD af (Int.toNat cL) aC).2.2.2.1,((List.getD af (Int.toNat cL) aC).2.2.2.2.1,(([]:(List Int))++(List.getD af (Int.toNat cL) aC).2.2.2.2.2))))))]) (IntKind.wrap .i64 (cL+(1:Int)))
     else none
    else none
   else none
  else
   iI aR
noncomputable def FQ (N:Nat) (a0:(List QT)) (kf:(List QT)→Option ab):Option ab:=
 q8 a0 N kf ([]:(List QT)) (0:Int)
noncomputable def q9 (af:(List QJ)):Nat→((List QJ)→Option ab)→(List QJ)→Int→Option ab
 |0,_,_,_=>none
 |Bo+1,iI,aR,cL=>
  bif (decide (cL<(List.length af:Int))) then
   bif (bC cL (List.length af)) then
    bif (decide ((List.length ([]:(List Int))+List.length (List.getD af (Int.toNat cL) cY).2.2)*1≤4398046511104)) then
     bif (decide ((List.length aR+List.length [((List.getD af (Int.toNat cL) cY).1,((List.getD af (Int.toNat cL) cY).2.1,(([]:(List Int))++(List.getD af (Int.toNat cL) cY).2.2)))])*3≤4398046511104)) then
      (q9 af Bo iI) (aR++[((List.getD af (Int.toNat cL) cY).1,((List.getD af (Int.toNat cL) cY).2.1,(([]:(List Int))++(List.getD af (Int.toNat cL) cY).2.2)))]) (IntKind.wrap .i64 (cL+(1:Int)))
     else none
    else none
   else none
  else
   iI aR
noncomputable def S7 (N:Nat) (a0:(List QJ)) (kf:(List QJ)→Option ab):Option ab:=
 q9 a0 N kf ([]:(List QJ)) (0:Int)
noncomputable def Wo (N:Nat) (a0:QC) (kf:QC→Option ab):Option ab:=
 FQ N a0.1 (fun Br=>
  S7 N a0.2.1 (fun arj=>
   bif (decide ((List.length ([]:(List cg))+List.length a0.2.2.1)*2≤4398046511104)) then
    bif (decide ((List.length ([]:(List Int))+List.length a0.2.2.2.1)*1≤4398046511104)) then
     bif (decide ((List.length ([]:(List QB))+List.length a0.2.2.2.2.1)*3≤4398046511104)) then
      bif (decide ((List.length ([]:(List QL))+List.length a0.2.2.2.2.2.1)*4≤4398046511104)) then
       kf (Br,(arj,((([]:(List cg))++a0.2.2.1),((([]:(List Int))++a0.2.2.2.1),((([]:(List QB))++a0.2.2.2.2.1),((([]:(List QL))++a0.2.2.2.2.2.1),a0.2.2.2.2.2.2))))))
      else none
     else none
    else none
   else none))
noncomputable def iP (N:Nat) (a0:Int) (a1:Int) (a2:Int) (kf:Bool→Option ab):Option ab:=
 bif (decide (a0≥a1)) then
  kf (decide (a0≤a2))
 else
  kf false
noncomputable def ra (af:(List QT)) (aM:Int):Nat→(Option ab)→(Int→Option ab)→Int→Option ab
 |0,_,_,_=>none
 |Bo+1,cI,dx,bH=>
  bif (decide (bH<(List.length af:Int))) then
   bif (bC bH (List.length af)) then
    bif ((List.getD af (Int.toNat bH) aC).1==aM) then
     dx bH
    else
     (ra af aM Bo cI dx) (IntKind.wrap .i64 (bH+(1:Int)))
   else none
  else
   cI
noncomputable def wC (N:Nat) (a0:(List QT)) (a1:Int) (kf:Int→Option ab):Option ab:=
 ra a0 a1 N (kf (-1:Int)) kf (0:Int)
noncomputable def oq (af:(List Int)) (aM:Int):Nat→(Int→Option ab)→Int→Int→Option ab
 |0,_,_,_=>none
 |kX+1,cr,bH,ig=>
  bif (decide (ig<(List.length af:Int))) then
   bif (bC ig (List.length af)) then
    bif ((List.getD af (Int.toNat ig) (0:Int))==aM) then
     (oq af aM kX cr) (IntKind.wrap .i64 (bH+(1:Int))) (IntKind.wrap .i64 (ig+(1:Int)))
    else
     (oq af aM kX cr) bH (IntKind.wrap .i64 (ig+(1:Int)))
   else none
  else
   cr bH
noncomputable def S8 (N:Nat) (a0:(List Int)) (a1:Int) (kf:Int→Option ab):Option ab:=
 oq a0 a1 N kf (0:Int) (0:Int)
noncomputable def kM (N:Nat) (yu:(List QT)) (ID:Int) (gl:QT):Nat→(Option ab)→(Bool→Option ab)→Int→Option ab
 |0,_,_,_=>none
 |arD+1,uD,lL,Wp=>
  bif (decide (Wp<(List.length gl.2.2.2.2.2:Int))) then
   bif (bC Wp (List.length gl.2.2.2.2.2)) then
    wC N yu (List.getD gl.2.2.2.2.2 (Int.toNat Wp) (0:Int)) (fun lA=>
     bif (decide (lA<(0:Int))) then
      lL false
     else
      bif (lA==ID) then
       lL false
      else
       bif (bC lA (List.length yu)) then
        bif (bC lA (List.length yu)) then
         S8 N (List.getD yu (Int.toNat lA) aC).2.2.2.2.2 gl.1 (fun JZ=>
          S8 N gl.2.2.2.2.2 (List.getD yu (Int.toNat lA) aC).1 (fun J0=>
           bif (JZ != J0) then
            lL false
           else
            (kM N yu ID gl arD uD lL) (IntKind.wrap .i64 (Wp+(1:Int)))))
        else none
       else none)
   else none
  else
   uD
noncomputable def ot (N:Nat) (af:(List QT)):Nat→(Option ab)→(Bool→Option ab)→Int→Option ab
 |0,_,_,_=>none
 |n_3+1,rb,dH,aR=>
  bif (decide (aR<(List.length af:Int))) then
   bif (bC aR (List.length af)) then
    iP N (List.getD af (Int.toNat aR) aC).1 (1:Int) (99:Int) (fun FF=>
     bif (!FF) then
      dH false
     else
      iP N (List.getD af (Int.toNat aR) aC).2.1 (1:Int) (99:Int) (fun FR=>
       bif (!FR) then
        dH false
       else
        iP N (List.getD af (Int.toNat aR) aC).2.2.1 (0:Int) (List.length (List.getD af (Int.toNat aR) aC).2.2.2.2.2:Int) (fun Oz=>
         bif (!Oz) then
          dH false
         else
          iP N (List.getD af (Int.toNat aR) aC).2.2.2.2.1 (0:Int) (List.length (List.getD af (Int.toNat aR) aC).2.2.2.2.2:Int) (fun adQ=>
           bif (!adQ) then
            dH false
           else
            iP N (List.getD af (Int.toNat aR) aC).2.2.2.1 (0:Int) (100000:Int) (fun adR=>
             bif (!adR) then
              dH false
             else
              bif (decide ((List.length (List.getD af (Int.toNat aR) aC).2.2.2.2.2:Int)>(20:Int))) then
               dH false
              else
               bif (decide (aR>(0:Int))) then
                bif (bC (IntKind.wrap .i64 (aR - (1:Int))) (List.length af)) then
                 bif (decide ((List.getD af (Int.toNat (IntKind.wrap .i64 (aR - (1:Int)))) aC).1≥(List.getD af (Int.toNat aR) aC).1)) then
                  dH false
                 else
                  kM N af aR (List.getD af (Int.toNat aR) aC) N ((ot N af n_3 rb dH) (IntKind.wrap .i64 (aR+(1:Int)))) dH (0:Int)
                else none
               else
                kM N af aR (List.getD af (Int.toNat aR) aC) N ((ot N af n_3 rb dH) (IntKind.wrap .i64 (aR+(1:Int)))) dH (0:Int))))))
   else none
  else
   rb
noncomputable def vf (N:Nat) (a0:(List QT)) (kf:Bool→Option ab):Option ab:=
 ot N a0 N (kf (decide ((List.length a0:Int)≤(10:Int)))) kf (0:Int)
noncomputable def adS (N:Nat) (a0:QT) (a1:QT) (kf:Bool→Option ab):Option ab:=
 bif (a0.2.2.1 != a1.2.2.1) then
  kf (decide (a0.2.2.1>a1.2.2.1))
 else
  bif (decide (a0.2.2.2.1>a1.2.2.2.1)) then
   kf true
  else
   bif (a0.2.2.2.1==a1.2.2.2.1) then
    kf (decide (a0.1<a1.1))
   else
    kf false
noncomputable def l5 (ou:(List QT)):Nat→((List Int)→Option ab)→(List Int)→Int→Option ab
 |0,_,_,_=>none
 |axb+1,pR,mE,OH=>
  bif (decide (OH<(List.length ou:Int))) then
   bif (bC OH (List.length ou)) then
    bif (decide ((List.length mE+List.length [(List.getD ou (Int.toNat OH) aC).1])*1≤4398046511104)) then
     (l5 ou axb pR) (mE++[(List.getD ou (Int.toNat OH) aC).1]) (IntKind.wrap .i64 (OH+(1:Int)))
    else none
   else none
  else
   pR mE
noncomputable def rf (N:Nat) (fW:(List QT)) (kN:(List QT)) (yv:Int):Nat→(Int→Option ab)→Int→Option ab
 |0,_,_=>none
 |Zv+1,J1,ZF=>
  bif (decide (ZF>(0:Int))) then
   bif (bC yv (List.length fW)) then
    bif (bC (IntKind.wrap .i64 (ZF - (1:Int))) (List.length kN)) then
     adS N (List.getD fW (Int.toNat yv) aC) (List.getD kN (Int.toNat (IntKind.wrap .i64 (ZF - (1:Int)))) aC) (fun arG=>
      bif arG then
       (rf N fW kN yv Zv J1) (IntKind.wrap .i64 (ZF - (1:Int)))
      else
       J1 ZF)
    else none
   else none
  else
   J1 ZF
noncomputable def rh (N:Nat) (af:(List QT)):Nat→((List QT)→Option ab)→(List QT)→Int→Option ab
 |0,_,_,_=>none
 |Bo+1,ov,aR,cL=>
  bif (decide (cL<(List.length af:Int))) then
   vf N af (fun adT=>
    bif adT then
     rf N af aR cL N (fun ju=>
      bif (decide ((0:Int)≤(0:Int))&&decide ((0:Int)≤ju)&&decide (ju≤(List.length aR:Int))) then
       bif (bC cL (List.length af)) then
        bif (decide ((0:Int)≤ju)&&decide (ju≤(List.length aR:Int))&&decide ((List.length aR:Int)≤(List.length aR:Int))) then
         bif (decide ((List.length ([]:(List QT))+List.length (List.drop 0 (List.take (Int.toNat ju) aR)))*6≤4398046511104)) then
          bif (decide ((List.length (([]:(List QT))++(List.drop 0 (List.take (Int.toNat ju) aR)))+List.length [(List.getD af (Int.toNat cL) aC)])*6≤4398046511104)) then
           bif (decide ((List.length ((([]:(List QT))++(List.drop 0 (List.take (Int.toNat ju) aR)))++[(List.getD af (Int.toNat cL) aC)])+List.length (List.drop (Int.toNat ju) (List.take (Int.toNat (List.length aR:Int)) aR)))*6≤4398046511104)) then
            (rh N af Bo ov) (((([]:(List QT))++(List.drop 0 (List.take (Int.toNat ju) aR)))++[(List.getD af (Int.toNat cL) aC)])++(List.drop (Int.toNat ju) (List.take (Int.toNat (List.length aR:Int)) aR))) (IntKind.wrap .i64 (cL+(1:Int)))
           else none
          else none
         else none
        else none
       else none
      else none) (List.length aR:Int)
    else
     ov aR)
  else
   ov aR
noncomputable def aiW (N:Nat) (a0:(List QT)) (kf:(List Int)→Option ab):Option ab:=
 rh N a0 N (fun avF=>
  l5 avF N kf ([]:(List Int)) (0:Int)) ([]:(List QT)) (0:Int)
noncomputable def rk (af:(List Int)) (aM:Int):Nat→(Option ab)→(Bool→Option ab)→Int→Option ab
 |0,_,_,_=>none
 |Bo+1,cI,dx,bH=>
  bif (decide (bH<(List.length af:Int))) then
   bif (bC bH (List.length af)) then
    bif ((List.getD af (Int.toNat bH) (0:Int))==aM) then
     dx true
    else
     (rk af aM Bo cI dx) (IntKind.wrap .i64 (bH+(1:Int)))
   else none
  else
   cI
noncomputable def wD (N:Nat) (a0:(List Int)) (a1:Int) (kf:Bool→Option ab):Option ab:=
 rk a0 a1 N (kf false) kf (0:Int)
noncomputable def aiX (N:Nat) (a0:(List QT)) (a1:Int) (a2:Int) (kf:Bool→Option ab):Option ab:=
 wC N a0 a1 (fun eW=>
  bif (decide (eW≥(0:Int))) then
   bif (bC eW (List.length a0)) then
    wD N (List.getD a0 (Int.toNat eW) aC).2.2.2.2.2 a2 kf
   else none
  else
   kf false)
noncomputable def S9 (N:Nat) (a0:(List QT)) (a1:Int) (a2:Int) (kf:Bool→Option ab):Option ab:=
 wC N a0 a1 (fun da=>
  wC N a0 a2 (fun dt=>
   vf N a0 (fun sj=>
    bif sj then
     bif (decide (da≥(0:Int))) then
      bif (decide (dt≥(0:Int))) then
       bif (da != dt) then
        bif (bC da (List.length a0)) then
         bif (bC dt (List.length a0)) then
          bif ((List.getD a0 (Int.toNat da) aC).2.1 != (List.getD a0 (Int.toNat dt) aC).2.1) then
           aiX N a0 a1 a2 (fun adx=>
            kf (!adx))
          else
           kf false
         else none
        else none
       else
        kf false
      else
       kf false
     else
      kf false
    else
     kf false)))
noncomputable def aiY (N:Nat) (a0:(List QT)) (a1:Int) (a2:Int) (kf:cg→Option ab):Option ab:=
 wC N a0 a1 (fun da=>
  wC N a0 a2 (fun dt=>
   vf N a0 (fun sj=>
    bif (!sj) then
     kf ((0:Int),(0:Int))
    else
     bif (decide (da<(0:Int))) then
      kf ((0:Int),(0:Int))
     else
      bif (decide (dt<(0:Int))) then
       kf ((0:Int),(0:Int))
      else
       bif (da==dt) then
        kf ((0:Int),(0:Int))
       else
        bif (bC dt (List.length a0)) then
         bif (bC da (List.length a0)) then
          bif (decide ((List.getD a0 (Int.toNat dt) aC).2.2.2.2.1<(List.getD a0 (Int.toNat da) aC).2.2.2.2.1)) then
           kf (a2,a1)
          else
           bif (bC dt (List.length a0)) then
            bif (bC da (List.length a0)) then
             bif ((List.getD a0 (Int.toNat dt) aC).2.2.2.2.1==(List.getD a0 (Int.toNat da) aC).2.2.2.2.1) then
              bif (bC dt (List.length a0)) then
               bif (bC da (List.length a0)) then
                adS N (List.getD a0 (Int.toNat dt) aC) (List.getD a0 (Int.toNat da) aC) (fun avG=>
                 bif avG then
                  kf (a2,a1)
                 else
                  kf (a1,a2))
               else none
              else none
             else
              kf (a1,a2)
            else none
           else none
         else none
        else none)))
noncomputable def rn (N:Nat) (self:(List QT)→(List Int)→((List cg)→Bool→Option ab)→Option ab) (af:(List QT)) (aM:(List Int)):Nat→(Option ab)→((List cg)→Bool→Option ab)→Int→Option ab
 |0,_,_,_=>none
 |Bo+1,Ta,J2,kg=>
  bif (decide (kg<(List.length aM:Int))) then
   bif (bC (0:Int) (List.length aM)) then
    bif (bC kg (List.length aM)) then
     S9 N af (List.getD aM (Int.toNat (0:Int)) (0:Int)) (List.getD aM (Int.toNat kg) (0:Int)) (fun adF=>
      bif (!adF) then
       (rn N self af aM Bo Ta J2) (IntKind.wrap .i64 (kg+(1:Int)))
      else
       bif (decide ((0:Int)≤(1:Int))&&decide ((1:Int)≤kg)&&decide (kg≤(List.length aM:Int))) then
        bif (decide ((0:Int)≤(IntKind.wrap .i64 (kg+(1:Int))))&&decide ((IntKind.wrap .i64 (kg+(1:Int)))≤(List.length aM:Int))&&decide ((List.length aM:Int)≤(List.length aM:Int))) then
         bif (decide ((List.length ([]:(List Int))+List.length (List.drop (Int.toNat (1:Int)) (List.take (Int.toNat kg) aM)))*1≤4398046511104)) then
          bif (decide ((List.length (([]:(List Int))++(List.drop (Int.toNat (1:Int)) (List.take (Int.toNat kg) aM)))+List.length (List.drop (Int.toNat (IntKind.wrap .i64 (kg+(1:Int)))) (List.take (Int.toNat (List.length aM:Int)) aM)))*1≤4398046511104)) then
           self af ((([]:(List Int))++(List.drop (Int.toNat (1:Int)) (List.take (Int.toNat kg) aM)))++(List.drop (Int.toNat (IntKind.wrap .i64 (kg+(1:Int)))) (List.take (Int.toNat (List.length aM:Int)) aM))) (fun apE avH=>
            bif avH then
             bif (bC (0:Int) (List.length aM)) then
              bif (bC kg (List.length aM)) then
               aiY N af (List.getD aM (Int.toNat (0:Int)) (0:Int)) (List.getD aM (Int.toNat kg) (0:Int)) (fun IB=>
                bif (decide ((List.length [IB]+List.length apE)*2≤4398046511104)) then
                 J2 ([IB]++apE) true
                else none)
              else none
             else none
            else
             (rn N self af aM Bo Ta J2) (IntKind.wrap .i64 (kg+(1:Int))))
          else none
         else none
        else none
       else none)
    else none
   else none
  else
   Ta
noncomputable def Tb (self:(List QT)→(List Int)→((List cg)→Bool→Option ab)→Option ab) (N:Nat) (a0:(List QT)) (a1:(List Int)) (kf:(List cg)→Bool→Option ab):Option ab:=
 bif ((List.length a1:Int)==(0:Int)) then
  kf ([]:(List cg)) true
 else
  rn N self a0 a1 N (kf ([]:(List cg)) false) kf (1:Int)
noncomputable def Tc:Nat→(List QT)→(List Int)→((List cg)→Bool→Option ab)→Option ab
 |0,_,_,_=>none
 |N+1,a0,a1,kf=>Tb (Tc N) N a0 a1 kf
noncomputable def S91 (N:Nat) (a0:(List QT)) (kf:(List cg)→Bool→Option ab):Option ab:=
 vf N a0 (fun Br=>
  bif (!Br) then
   kf ([]:(List cg)) false
  else
   bif ((Int.tmod (List.length a0:Int) (2:Int))==(1:Int)) then
    kf ([]:(List cg)) false
   else
    aiW N a0 (fun pO=>
     Tc N a0 pO kf))
noncomputable def jD (N:Nat) (fW:(List QJ)) (kN:Int):Nat→(Option ab)→(Bool→Option ab)→Int→Option ab
 |0,_,_,_=>none
 |n_9+1,rp,mP,yv=>
  bif (bC kN (List.length fW)) then
   bif (decide (yv<(List.length (List.getD fW (Int.toNat kN) cY).2.2:Int))) then
    bif (bC kN (List.length fW)) then
     bif (bC yv (List.length (List.getD fW (Int.toNat kN) cY).2.2)) then
      iP N (List.getD (List.getD fW (Int.toNat kN) cY).2.2 (Int.toNat yv) (0:Int)) (1:Int) (99:Int) (fun Td=>
       bif (!Td) then
        mP false
       else
        bif (decide (yv>(0:Int))) then
         bif (bC kN (List.length fW)) then
          bif (bC (IntKind.wrap .i64 (yv - (1:Int))) (List.length (List.getD fW (Int.toNat kN) cY).2.2)) then
           bif (bC kN (List.length fW)) then
            bif (bC yv (List.length (List.getD fW (Int.toNat kN) cY).2.2)) then
             bif (decide ((List.getD (List.getD fW (Int.toNat kN) cY).2.2 (Int.toNat (IntKind.wrap .i64 (yv - (1:Int)))) (0:Int))≥(List.getD (List.getD fW (Int.toNat kN) cY).2.2 (Int.toNat yv) (0:Int)))) then
              mP false
             else
              (jD N fW kN n_9 rp mP) (IntKind.wrap .i64 (yv+(1:Int)))
            else none
           else none
          else none
         else none
        else
         (jD N fW kN n_9 rp mP) (IntKind.wrap .i64 (yv+(1:Int))))
     else none
    else none
   else
    rp
  else none
noncomputable def oy (N:Nat) (af:(List QJ)):Nat→(Option ab)→(Bool→Option ab)→Int→Option ab
 |0,_,_,_=>none
 |n_3+1,rq,gN,aR=>
  bif (decide (aR<(List.length af:Int))) then
   bif (bC aR (List.length af)) then
    iP N (List.getD af (Int.toNat aR) cY).1 (1:Int) (99:Int) (fun Ol=>
     bif (!Ol) then
      gN false
     else
      bif (bC aR (List.length af)) then
       iP N (List.getD af (Int.toNat aR) cY).2.1 (1:Int) (99:Int) (fun FR=>
        bif (!FR) then
         gN false
        else
         bif (decide (aR>(0:Int))) then
          bif (bC (IntKind.wrap .i64 (aR - (1:Int))) (List.length af)) then
           bif (bC aR (List.length af)) then
            bif (decide ((List.getD af (Int.toNat (IntKind.wrap .i64 (aR - (1:Int)))) cY).1≥(List.getD af (Int.toNat aR) cY).1)) then
             gN false
            else
             jD N af aR N ((oy N af n_3 rq gN) (IntKind.wrap .i64 (aR+(1:Int)))) gN (0:Int)
           else none
          else none
         else
          jD N af aR N ((oy N af n_3 rq gN) (IntKind.wrap .i64 (aR+(1:Int)))) gN (0:Int))
      else none)
   else none
  else
   rq
noncomputable def ZG (N:Nat) (a0:(List QJ)) (kf:Bool→Option ab):Option ab:=
 oy N a0 N (kf (decide ((List.length a0:Int)≤(10:Int)))) kf (0:Int)
noncomputable def ZH (N:Nat) (a0:(List QT)) (a1:QJ) (a2:cg) (kf:Bool→Option ab):Option ab:=
 wC N a0 a2.1 (fun vA=>
  wC N a0 a2.2 (fun pO=>
   bif (decide (vA≥(0:Int))) then
    bif (decide (pO≥(0:Int))) then
     bif (bC vA (List.length a0)) then
      bif ((List.getD a0 (Int.toNat vA) aC).2.1 != a1.2.1) then
       bif (bC pO (List.length a0)) then
        bif ((List.getD a0 (Int.toNat pO) aC).2.1 != a1.2.1) then
         wD N a1.2.2 a2.1 (fun avI=>
          bif (!avI) then
           wD N a1.2.2 a2.2 (fun adU=>
            kf (!adU))
          else
           kf false)
        else
         kf false
       else none
      else
       kf false
     else none
    else
     kf false
   else
    kf false))
noncomputable def oz (N:Nat) (self:(List QT)→(List QJ)→(List cg)→(List Int)→((List Int)→Bool→Option ab)→Option ab) (af:(List QT)) (aM:(List QJ)) (gy:(List cg)) (db:(List Int)):Nat→(Option ab)→((List Int)→Bool→Option ab)→Int→Option ab
 |0,_,_,_=>none
 |RL+1,kO,gO,iS=>
  bif (decide (iS<(List.length aM:Int))) then
   bif (bC iS (List.length aM)) then
    wD N db (List.getD aM (Int.toNat iS) cY).1 (fun avJ=>
     bif avJ then
      (oz N self af aM gy db RL kO gO) (IntKind.wrap .i64 (iS+(1:Int)))
     else
      bif (bC iS (List.length aM)) then
       bif (bC (0:Int) (List.length gy)) then
        ZH N af (List.getD aM (Int.toNat iS) cY) (List.getD gy (Int.toNat (0:Int)) dz) (fun tr=>
         bif (!tr) then
          (oz N self af aM gy db RL kO gO) (IntKind.wrap .i64 (iS+(1:Int)))
         else
          bif (decide ((0:Int)≤(1:Int))&&decide ((1:Int)≤(List.length gy:Int))&&decide ((List.length gy:Int)≤(List.length gy:Int))) then
           bif (bC iS (List.length aM)) then
            bif (decide ((List.length ([]:(List Int))+List.length db)*1≤4398046511104)) then
             bif (decide ((List.length (([]:(List Int))++db)+List.length [(List.getD aM (Int.toNat iS) cY).1])*1≤4398046511104)) then
              self af aM (List.drop (Int.toNat (1:Int)) (List.take (Int.toNat (List.length gy:Int)) gy)) ((([]:(List Int))++db)++[(List.getD aM (Int.toNat iS) cY).1]) (fun apF arH=>
               bif arH then
                bif (bC iS (List.length aM)) then
                 bif (decide ((List.length [(List.getD aM (Int.toNat iS) cY).1]+List.length apF)*1≤4398046511104)) then
                  gO ([(List.getD aM (Int.toNat iS) cY).1]++apF) true
                 else none
                else none
               else
                (oz N self af aM gy db RL kO gO) (IntKind.wrap .i64 (iS+(1:Int))))
             else none
            else none
           else none
          else none)
       else none
      else none)
   else none
  else
   kO
noncomputable def Te (self:(List QT)→(List QJ)→(List cg)→(List Int)→((List Int)→Bool→Option ab)→Option ab) (N:Nat) (a0:(List QT)) (a1:(List QJ)) (a2:(List cg)) (a3:(List Int)) (kf:(List Int)→Bool→Option ab):Option ab:=
 bif ((List.length a2:Int)==(0:Int)) then
  kf ([]:(List Int)) true
 else
  oz N self a0 a1 a2 a3 N (kf ([]:(List Int)) false) kf (0:Int)
noncomputable def Tf:Nat→(List QT)→(List QJ)→(List cg)→(List Int)→((List Int)→Bool→Option ab)→Option ab
 |0,_,_,_,_,_=>none
 |N+1,a0,a1,a2,a3,kf=>Te (Tf N) N a0 a1 a2 a3 kf
noncomputable def S92 (N:Nat) (a0:(List QT)) (a1:(List QJ)) (a2:(List cg)) (kf:(List Int)→Bool→Option ab):Option ab:=
 ZG N a1 (fun iZ=>
  bif (!iZ) then
   kf ([]:(List Int)) false
  else
   vf N a0 (fun gD=>
    bif (!gD) then
     kf ([]:(List Int)) false
    else
     Tf N a0 a1 a2 ([]:(List Int)) kf))
noncomputable def S94 (N:Nat) (a0:QC) (kf:Bool→Option ab):Option ab:=
 kf (decide ((List.length a0.2.2.1:Int)>(0:Int)))
noncomputable def arI (N:Nat) (a0:(List QL)) (kf:Int→Option ab):Option ab:=
 bif ((List.length a0:Int)==(0:Int)) then
  kf (0:Int)
 else
  bif (bC (IntKind.wrap .i64 ((List.length a0:Int) - (1:Int))) (List.length a0)) then
   kf (List.getD a0 (Int.toNat (IntKind.wrap .i64 ((List.length a0:Int) - (1:Int)))) Bm).2.2.2
  else none
noncomputable def adV (N:Nat) (a0:Int) (a1:Int) (kf:Int→Option ab):Option ab:=
 iP N a1 (1:Int) (1000000000000:Int) (fun arF=>
  bif (!arF) then
   kf (0:Int)
  else
   bif (!decide (a1=0)) then
    bif (!decide (a1=0)) then
     kf (Int.tmod (IntKind.wrap .i64 ((Int.tmod a0 a1)+a1)) a1)
    else none
   else none)
noncomputable def rr (N:Nat) (af:(List Int)):Nat→(Int→Option ab)→Int→Int→Option ab
 |0,_,_,_=>none
 |Bo+1,fe,aR,cL=>
  bif (decide (cL<(List.length af:Int))) then
   bif (bC cL (List.length af)) then
    adV N (List.getD af (Int.toNat cL) (0:Int)) (2147483647:Int) (fun adW=>
     (rr N af Bo fe) (Int.tmod (IntKind.wrap .i64 ((IntKind.wrap .i64 ((IntKind.wrap .i64 (aR*(1000003:Int)))+adW))+(13:Int))) (2147483647:Int)) (IntKind.wrap .i64 (cL+(1:Int))))
   else none
  else
   fe aR
noncomputable def aiZ (N:Nat) (a0:(List Int)) (kf:Int→Option ab):Option ab:=
 rr N a0 N kf (11:Int) (0:Int)
noncomputable def Tg (N:Nat) (a0:Int) (a1:QL) (kf:Int→Option ab):Option ab:=
 aiZ N [a0,a1.1,a1.2.1,a1.2.2.1] kf
noncomputable def ru (N:Nat) (af:(List QL)):Nat→(Option ab)→(Bool→Option ab)→Int→Int→Option ab
 |0,_,_,_,_=>none
 |Bo+1,dD,gL,aR,cL=>
  bif (decide (cL<(List.length af:Int))) then
   bif (decide ((List.length af:Int)≤(200:Int))) then
    bif (bC cL (List.length af)) then
     Tg N aR (List.getD af (Int.toNat cL) Bm) (fun vB=>
      bif ((List.getD af (Int.toNat cL) Bm).1 != (IntKind.wrap .i64 (cL+(1:Int)))) then
       gL false
      else
       iP N (List.getD af (Int.toNat cL) Bm).2.1 (1:Int) (9:Int) (fun OI=>
        bif (!OI) then
         gL false
        else
         iP N (List.getD af (Int.toNat cL) Bm).2.2.1 (0:Int) (99:Int) (fun OJ=>
          bif (!OJ) then
           gL false
          else
           bif ((List.getD af (Int.toNat cL) Bm).2.2.2 != vB) then
            gL false
           else
            (ru N af Bo dD gL) vB (IntKind.wrap .i64 (cL+(1:Int))))))
    else none
   else
    dD
  else
   dD
noncomputable def adX (N:Nat) (a0:(List QL)) (kf:Bool→Option ab):Option ab:=
 ru N a0 N (kf (decide ((List.length a0:Int)≤(200:Int)))) kf (0:Int) (0:Int)
noncomputable def ai0 (N:Nat) (a0:(List QL)) (a1:Int) (a2:Int) (kf:(List QL)→Bool→Option ab):Option ab:=
 arI N a0 (fun adr=>
  Tg N adr ((IntKind.wrap .i64 ((List.length a0:Int)+(1:Int))),(a1,(a2,(0:Int)))) (fun yp=>
   bif (decide ((List.length ([]:(List QL))+List.length a0)*4≤4398046511104)) then
    bif (decide ((List.length (([]:(List QL))++a0)+List.length [((IntKind.wrap .i64 ((List.length a0:Int)+(1:Int))),(a1,(a2,yp)))])*4≤4398046511104)) then
     adX N ((([]:(List QL))++a0)++[((IntKind.wrap .i64 ((List.length a0:Int)+(1:Int))),(a1,(a2,yp)))]) (fun adO=>
      bif (!adO) then
       bif (decide ((List.length ([]:(List QL))+List.length a0)*4≤4398046511104)) then
        kf (([]:(List QL))++a0) false
       else none
      else
       kf ((([]:(List QL))++a0)++[((IntKind.wrap .i64 ((List.length a0:Int)+(1:Int))),(a1,(a2,yp)))]) true)
    else none
   else none))
noncomputable def rv (N:Nat) (af:(List QT)):Nat→(Int→Option ab)→Int→Int→Option ab
 |0,_,_,_=>none
 |Bo+1,fe,aR,cL=>
  bif (decide (cL<(List.length af:Int))) then
   vf N af (fun adY=>
    bif adY then
     bif (bC cL (List.length af)) then
      (rv N af Bo fe) (IntKind.wrap .i64 (aR+(List.getD af (Int.toNat cL) aC).2.2.1)) (IntKind.wrap .i64 (cL+(1:Int)))
     else none
    else
     fe aR)
  else
   fe aR
noncomputable def ai1 (N:Nat) (a0:(List QT)) (kf:Int→Option ab):Option ab:=
 rv N a0 N kf (0:Int) (0:Int)
noncomputable def ry (N:Nat) (af:(List QT)) (aM:(List cg)):Nat→((List Int)→Option ab)→(Bool→Option ab)→(List Int)→Int→Option ab
 |0,_,_,_,_=>none
 |kX+1,cU,lM,bH,ig=>
  bif (decide (ig<(List.length aM:Int))) then
   bif (bC ig (List.length aM)) then
    bif (bC ig (List.length aM)) then
     S9 N af (List.getD aM (Int.toNat ig) dz).1 (List.getD aM (Int.toNat ig) dz).2 (fun OK=>
      bif (!OK) then
       lM false
      else
       bif (bC ig (List.length aM)) then
        wD N bH (List.getD aM (Int.toNat ig) dz).1 (fun OL=>
         bif OL then
          lM false
         else
          bif (bC ig (List.length aM)) then
           wD N bH (List.getD aM (Int.toNat ig) dz).2 (fun OM=>
            bif OM then
             lM false
            else
             bif (bC ig (List.length aM)) then
              bif (bC ig (List.length aM)) then
               bif (decide ((List.length bH+List.length [(List.getD aM (Int.toNat ig) dz).1,(List.getD aM (Int.toNat ig) dz).2])*1≤4398046511104)) then
                (ry N af aM kX cU lM) (bH++[(List.getD aM (Int.toNat ig) dz).1,(List.getD aM (Int.toNat ig) dz).2]) (IntKind.wrap .i64 (ig+(1:Int)))
               else none
              else none
             else none)
          else none)
       else none)
    else none
   else none
  else
   cU bH
noncomputable def ai2 (N:Nat) (a0:(List QT)) (a1:(List cg)) (kf:Bool→Option ab):Option ab:=
 ry N a0 a1 N (fun avK=>
  vf N a0 (fun arJ=>
   bif arJ then
    kf ((List.length avK:Int)==(List.length a0:Int))
   else
    kf false)) kf ([]:(List Int)) (0:Int)
noncomputable def rz (af:(List QJ)) (aM:Int):Nat→(Option ab)→(Int→Option ab)→Int→Option ab
 |0,_,_,_=>none
 |Bo+1,cI,dx,bH=>
  bif (decide (bH<(List.length af:Int))) then
   bif (bC bH (List.length af)) then
    bif ((List.getD af (Int.toNat bH) cY).1==aM) then
     dx bH
    else
     (rz af aM Bo cI dx) (IntKind.wrap .i64 (bH+(1:Int)))
   else none
  else
   cI
noncomputable def FT (N:Nat) (a0:(List QJ)) (a1:Int) (kf:Int→Option ab):Option ab:=
 rz a0 a1 N (kf (-1:Int)) kf (0:Int)
noncomputable def rA (N:Nat) (wx:(List QT)) (kZ:(List QJ)) (lz:(List cg)) (ke:(List Int)):Nat→(Option ab)→(Bool→Option ab)→Int→Option ab
 |0,_,_,_=>none
 |n_7+1,kO,gO,FU=>
  bif (decide (FU<(List.length lz:Int))) then
   bif (bC FU (List.length ke)) then
    FT N kZ (List.getD ke (Int.toNat FU) (0:Int)) (fun FV=>
     bif (decide (FV<(0:Int))) then
      gO false
     else
      bif (decide ((0:Int)≤(0:Int))&&decide ((0:Int)≤FU)&&decide (FU≤(List.length ke:Int))) then
       bif (bC FU (List.length ke)) then
        wD N (List.drop (Int.toNat (0:Int)) (List.take (Int.toNat FU) ke)) (List.getD ke (Int.toNat FU) (0:Int)) (fun adZ=>
         bif adZ then
          gO false
         else
          bif (bC FV (List.length kZ)) then
           bif (bC FU (List.length lz)) then
            ZH N wx (List.getD kZ (Int.toNat FV) cY) (List.getD lz (Int.toNat FU) dz) (fun Th=>
             bif (!Th) then
              gO false
             else
              (rA N wx kZ lz ke n_7 kO gO) (IntKind.wrap .i64 (FU+(1:Int))))
           else none
          else none)
       else none
      else none)
   else none
  else
   kO
noncomputable def ai3 (N:Nat) (a0:(List QT)) (a1:(List QJ)) (a2:(List cg)) (a3:(List Int)) (kf:Bool→Option ab):Option ab:=
 bif ((List.length a3:Int) != (List.length a2:Int)) then
  kf false
 else
  ZG N a1 (fun aW=>
   bif (!aW) then
    kf false
   else
    rA N a0 a1 a2 a3 N (kf true) kf (0:Int))
noncomputable def ON (N:Nat) (a0:QB) (kf:Bool→Option ab):Option ab:=
 iP N a0.1 (1:Int) (99:Int) (fun Br=>
  bif Br then
   iP N a0.2.1 (0:Int) (100:Int) (fun Ow=>
    bif Ow then
     iP N a0.2.2 (0:Int) (100:Int) (fun Ox=>
      bif Ox then
       kf (a0.2.1 != a0.2.2)
      else
       kf false)
    else
     kf false)
  else
   kf false)
noncomputable def oA (N:Nat) (mQ:QC) (FW:QB):Nat→(Option ab)→(Bool→Option ab)→Int→Option ab
 |0,_,_,_=>none
 |SV+1,rB,mR,pS=>
  bif (decide (pS<(List.length mQ.2.2.2.2.1:Int))) then
   bif (bC pS (List.length mQ.2.2.2.2.1)) then
    bif (!((decide (((List.getD mQ.2.2.2.2.1 (Int.toNat pS) gU).1:Int)=FW.1))&&((decide (((List.getD mQ.2.2.2.2.1 (Int.toNat pS) gU).2.1:Int)=FW.2.1))&&(decide (((List.getD mQ.2.2.2.2.1 (Int.toNat pS) gU).2.2:Int)=FW.2.2))))) then
     bif (bC pS (List.length mQ.2.2.2.2.1)) then
      ON N (List.getD mQ.2.2.2.2.1 (Int.toNat pS) gU) (fun Ti=>
       bif (!Ti) then
        mR false
       else
        bif (bC pS (List.length mQ.2.2.2.2.1)) then
         bif (bC pS (List.length mQ.2.2.2.1)) then
          bif ((List.getD mQ.2.2.2.2.1 (Int.toNat pS) gU).1 != (List.getD mQ.2.2.2.1 (Int.toNat pS) (0:Int))) then
           mR false
          else
           (oA N mQ FW SV rB mR) (IntKind.wrap .i64 (pS+(1:Int)))
         else none
        else none)
     else none
    else
     (oA N mQ FW SV rB mR) (IntKind.wrap .i64 (pS+(1:Int)))
   else none
  else
   rB
noncomputable def DT (N:Nat) (a0:QC) (kf:Bool→Option ab):Option ab:=
 oA N a0 ((0:Int),((0:Int),(0:Int))) N (kf true) kf (0:Int)
noncomputable def Tj (N:Nat) (a0:QC) (kf:Bool→Option ab):Option ab:=
 vf N a0.1 (fun Bp=>
  bif (!Bp) then
   kf false
  else
   ZG N a0.2.1 (fun Oy=>
    bif (!Oy) then
     kf false
    else
     adX N a0.2.2.2.2.2.1 (fun FC=>
      bif (!FC) then
       kf false
      else
       bif ((List.length a0.2.2.2.1:Int) != (List.length a0.2.2.1:Int)) then
        kf false
       else
        bif ((List.length a0.2.2.2.2.1:Int) != (List.length a0.2.2.1:Int)) then
         kf false
        else
         iP N a0.2.2.2.2.2.2 (0:Int) (1000:Int) (fun avL=>
          bif (!avL) then
           kf false
          else
           ai1 N a0.1 (fun avM=>
            bif (avM != a0.2.2.2.2.2.2) then
             kf false
            else
             bif (decide ((List.length a0.2.2.1:Int)>(0:Int))) then
              ai2 N a0.1 a0.2.2.1 (fun avN=>
               bif (!avN) then
                kf false
               else
                ai3 N a0.1 a0.2.1 a0.2.2.1 a0.2.2.2.1 (fun avO=>
                 bif (!avO) then
                  kf false
                 else
                  DT N a0 kf))
             else
              DT N a0 kf)))))
noncomputable def ZI (N:Nat) (a0:QC) (a1:QC) (a2:Bool) (a3:Int) (a4:Int) (kf:QC→Bool→Option ab):Option ab:=
 ai0 N a0.2.2.2.2.2.1 a3 a4 (fun apG yp=>
  bif (!a2) then
   Wo N a0 (fun aX=>
    kf aX false)
  else
   bif (!yp) then
    Wo N a0 (fun aX=>
     kf aX false)
   else
    Tj N a0 (fun avP=>
     bif (!avP) then
      Wo N a0 (fun aX=>
       kf aX false)
     else
      Tj N (a1.1,(a1.2.1,(a1.2.2.1,(a1.2.2.2.1,(a1.2.2.2.2.1,(apG,a1.2.2.2.2.2.2)))))) (fun avQ=>
       bif (!avQ) then
        Wo N a0 (fun aZ=>
         kf aZ false)
       else
        kf (a1.1,(a1.2.1,(a1.2.2.1,(a1.2.2.2.1,(a1.2.2.2.2.1,(apG,a1.2.2.2.2.2.2)))))) true)))
noncomputable def S21 (N:Nat) (a0:QC) (kf:QC→Bool→Option ab):Option ab:=
 Wo N a0 (fun eW=>
  S91 N a0.1 (fun dt Ox=>
   S92 N a0.1 a0.2.1 dt (fun IE vB=>
    bif (decide ((List.length dt:Int)=(List.length dt:Int))&&decide ((0:Int)≤(List.length dt:Int))&&decide ((List.length dt:Int)≤1099511627776)) then
     bif Ox then
      bif vB then
       S94 N a0 (fun avR=>
        bif (!avR) then
         ZI N a0 (eW.1,(eW.2.1,(dt,(IE,((List.replicate (Int.toNat (List.length dt:Int)) ((0:Int),((0:Int),(0:Int)))),eW.2.2.2.2.2))))) (decide ((List.length a0.1:Int)>(0:Int))) (3:Int) (0:Int) kf
        else
         ZI N a0 (eW.1,(eW.2.1,(dt,(IE,((List.replicate (Int.toNat (List.length dt:Int)) ((0:Int),((0:Int),(0:Int)))),eW.2.2.2.2.2))))) false (3:Int) (0:Int) kf)
      else
       ZI N a0 (eW.1,(eW.2.1,(dt,(IE,((List.replicate (Int.toNat (List.length dt:Int)) ((0:Int),((0:Int),(0:Int)))),eW.2.2.2.2.2))))) false (3:Int) (0:Int) kf
     else
      ZI N a0 (eW.1,(eW.2.1,(dt,(IE,((List.replicate (Int.toNat (List.length dt:Int)) ((0:Int),((0:Int),(0:Int)))),eW.2.2.2.2.2))))) false (3:Int) (0:Int) kf
    else none)))
noncomputable def oD (fV:QC) (cL:QB):Nat→((List Int)→Option ab)→(List Int)→Int→Option ab
 |0,_,_,_=>none
 |kX+1,dE,aR,J3=>
  bif (decide (J3<(List.length fV.2.2.2.2.1:Int))) then
   bif (bC J3 (List.length fV.2.2.2.2.1)) then
    bif ((decide (((List.getD fV.2.2.2.2.1 (Int.toNat J3) gU).1:Int)=cL.1))&&((decide (((List.getD fV.2.2.2.2.1 (Int.toNat J3) gU).2.1:Int)=cL.2.1))&&(decide (((List.getD fV.2.2.2.2.1 (Int.toNat J3) gU).2.2:Int)=cL.2.2)))) then
     bif (decide ((List.length aR+List.length [J3])*1≤4398046511104)) then
      (oD fV cL kX dE) (aR++[J3]) (IntKind.wrap .i64 (J3+(1:Int)))
     else none
    else
     (oD fV cL kX dE) aR (IntKind.wrap .i64 (J3+(1:Int)))
   else none
  else
   dE aR
noncomputable def ZJ (N:Nat) (a0:QC) (kf:(List Int)→Option ab):Option ab:=
 oD a0 ((0:Int),((0:Int),(0:Int))) N kf ([]:(List Int)) (0:Int)
noncomputable def oH (N:Nat) (af:(List QB)):Nat→(Option ab)→(Bool→Option ab)→Int→Option ab
 |0,_,_,_=>none
 |n_3+1,cI,dx,aR=>
  bif (decide (aR<(List.length af:Int))) then
   bif (bC aR (List.length af)) then
    ON N (List.getD af (Int.toNat aR) gU) (fun FX=>
     bif (!FX) then
      dx false
     else
      bif (decide (aR>(0:Int))) then
       bif (bC (IntKind.wrap .i64 (aR - (1:Int))) (List.length af)) then
        bif (bC aR (List.length af)) then
         bif (decide ((List.getD af (Int.toNat (IntKind.wrap .i64 (aR - (1:Int)))) gU).1≥(List.getD af (Int.toNat aR) gU).1)) then
          dx false
         else
          (oH N af n_3 cI dx) (IntKind.wrap .i64 (aR+(1:Int)))
        else none
       else none
      else
       (oH N af n_3 cI dx) (IntKind.wrap .i64 (aR+(1:Int))))
   else none
  else
   cI
noncomputable def Tk (N:Nat) (a0:(List QB)) (kf:Bool→Option ab):Option ab:=
 oH N a0 N (kf (decide ((List.length a0:Int)≤(9:Int)))) kf (0:Int)
noncomputable def ZK (N:Nat) (a0:QB) (kf:Int→Option ab):Option ab:=
 bif (decide (a0.2.1>a0.2.2)) then
  kf (1:Int)
 else
  kf (2:Int)
noncomputable def oI (N:Nat) (af:(List QB)) (aM:Int):Nat→(Int→Option ab)→Int→Int→Option ab
 |0,_,_,_=>none
 |kX+1,cU,bH,ig=>
  bif (decide (ig<(List.length af:Int))) then
   Tk N af (fun OO=>
    bif OO then
     bif (bC ig (List.length af)) then
      ZK N (List.getD af (Int.toNat ig) gU) (fun Oj=>
       bif (Oj==aM) then
        (oI N af aM kX cU) (IntKind.wrap .i64 (bH+(1:Int))) (IntKind.wrap .i64 (ig+(1:Int)))
       else
        (oI N af aM kX cU) bH (IntKind.wrap .i64 (ig+(1:Int))))
     else none
    else
     cU bH)
  else
   cU bH
noncomputable def ad0 (N:Nat) (a0:(List QB)) (a1:Int) (kf:Int→Option ab):Option ab:=
 oI N a0 a1 N kf (0:Int) (0:Int)
noncomputable def yw (N:Nat) (af:(List QB)) (aM:Int):Nat→(Int→Option ab)→Int→Int→Option ab
 |0,_,_,_=>none
 |kX+1,dD,bH,ig=>
  bif (decide (ig<(List.length af:Int))) then
   Tk N af (fun OO=>
    bif OO then
     bif (aM==(1:Int)) then
      bif (bC ig (List.length af)) then
       (yw N af aM kX dD) (IntKind.wrap .i64 (bH+(List.getD af (Int.toNat ig) gU).2.1)) (IntKind.wrap .i64 (ig+(1:Int)))
      else none
     else
      bif (aM==(2:Int)) then
       bif (bC ig (List.length af)) then
        (yw N af aM kX dD) (IntKind.wrap .i64 (bH+(List.getD af (Int.toNat ig) gU).2.2)) (IntKind.wrap .i64 (ig+(1:Int)))
       else none
      else
       (yw N af aM kX dD) bH (IntKind.wrap .i64 (ig+(1:Int)))
    else
     dD bH)
  else
   dD bH
noncomputable def arK (N:Nat) (a0:(List QB)) (a1:Int) (kf:Int→Option ab):Option ab:=
 yw N a0 a1 N kf (0:Int) (0:Int)
noncomputable def Wq (N:Nat) (a0:(List QB)) (kf:Int→Option ab) (avS:Int):Option ab:=
 bif (decide (avS>(0:Int))) then
  kf (1:Int)
 else
  bif (decide (avS<(0:Int))) then
   kf (2:Int)
  else
   bif (bC (0:Int) (List.length a0)) then
    ZK N (List.getD a0 (Int.toNat (0:Int)) gU) kf
   else none
noncomputable def ZL (N:Nat) (a0:(List QB)) (kf:Int→Option ab):Option ab:=
 bif ((List.length a0:Int)==(0:Int)) then
  kf (0:Int)
 else
  Tk N a0 (fun iZ=>
   bif (!iZ) then
    kf (0:Int)
   else
    ad0 N a0 (1:Int) (fun gD=>
     ad0 N a0 (2:Int) (fun apH=>
      bif ((IntKind.wrap .i64 (gD - apH))==(0:Int)) then
       arK N a0 (1:Int) (fun avT=>
        arK N a0 (2:Int) (fun avU=>
         Wq N a0 kf (IntKind.wrap .i64 (avT - avU))))
      else
       Wq N a0 kf (IntKind.wrap .i64 (gD - apH)))))
noncomputable def DU (N:Nat) (a0:(List QT)) (kf:(List QT)→Bool→Option ab) (ad1:(List QT)):Option ab:=
 vf N ad1 (fun ai4=>
  bif (!ai4) then
   FQ N a0 (fun ai5=>
    kf ai5 false)
  else
   kf ad1 true)
noncomputable def ZM (N:Nat) (a0:(List QT)) (a1:Int) (a2:Int) (a3:Int) (a4:Int) (a5:Int) (kf:(List QT)→Bool→Option ab):Option ab:=
 FQ N a0 (fun aW=>
  wC N a0 a1 (fun ae=>
   wC N a0 a2 (fun aV=>
    vf N a0 (fun FH=>
     bif (!FH) then
      kf aW false
     else
      bif (decide (ae<(0:Int))) then
       kf aW false
      else
       bif (decide (aV<(0:Int))) then
        kf aW false
       else
        bif (ae==aV) then
         kf aW false
        else
         iP N a3 (1:Int) (2:Int) (fun OG=>
          bif (!OG) then
           kf aW false
          else
           iP N a4 (0:Int) (1000:Int) (fun adK=>
            bif (!adK) then
             kf aW false
            else
             iP N a5 (0:Int) (1000:Int) (fun adL=>
              bif (!adL) then
               kf aW false
              else
               bif (bC ae (List.length aW)) then
                bif (decide ((List.length (List.getD aW (Int.toNat ae) aC).2.2.2.2.2+List.length [a2])*1≤4398046511104)) then
                 bif (bC ae (List.length aW)) then
                  bif (Nat.beq (Int.toNat ae) (Int.toNat ae)) then
                   bif (bC aV (List.length (List.set aW (Int.toNat ae) ((List.getD aW (Int.toNat ae) aC).1,((List.getD aW (Int.toNat ae) aC).2.1,((List.getD aW (Int.toNat ae) aC).2.2.1,((List.getD aW (Int.toNat ae) aC).2.2.2.1,((List.getD aW (Int.toNat ae) aC).2.2.2.2.1,((List.getD aW (Int.toNat ae) aC).2.2.2.2.2++[a2]))))))))) then
                    bif (decide ((List.length (List.getD (List.set aW (Int.toNat ae) ((List.getD aW (Int.toNat ae) aC).1,((List.getD aW (Int.toNat ae) aC).2.1,((List.getD aW (Int.toNat ae) aC).2.2.1,((List.getD aW (Int.toNat ae) aC).2.2.2.1,((List.getD aW (Int.toNat ae) aC).2.2.2.2.1,((List.getD aW (Int.toNat ae) aC).2.2.2.2.2++[a2]))))))) (Int.toNat aV) aC).2.2.2.2.2+List.length [a1])*1≤4398046511104)) then
                     bif (bC aV (List.length (List.set aW (Int.toNat ae) ((List.getD aW (Int.toNat ae) aC).1,((List.getD aW (Int.toNat ae) aC).2.1,((List.getD aW (Int.toNat ae) aC).2.2.1,((List.getD aW (Int.toNat ae) aC).2.2.2.1,((List.getD aW (Int.toNat ae) aC).2.2.2.2.1,((List.getD aW (Int.toNat ae) aC).2.2.2.2.2++[a2]))))))))) then
                      bif (Nat.beq (Int.toNat aV) (Int.toNat aV)) then
                       share (List.set (List.set aW (Int.toNat ae) ((List.getD aW (Int.toNat ae) aC).1,((List.getD aW (Int.toNat ae) aC).2.1,((List.getD aW (Int.toNat ae) aC).2.2.1,((List.getD aW (Int.toNat ae) aC).2.2.2.1,((List.getD aW (Int.toNat ae) aC).2.2.2.2.1,((List.getD aW (Int.toNat ae) aC).2.2.2.2.2++[a2]))))))) (Int.toNat aV) ((List.getD (List.set aW (Int.toNat ae) ((List.getD aW (Int.toNat ae) aC).1,((List.getD aW (Int.toNat ae) aC).2.1,((List.getD aW (Int.toNat ae) aC).2.2.1,((List.getD aW (Int.toNat ae) aC).2.2.2.1,((List.getD aW (Int.toNat ae) aC).2.2.2.2.1,((List.getD aW (Int.toNat ae) aC).2.2.2.2.2++[a2]))))))) (Int.toNat aV) aC).1,((List.getD (List.set aW (Int.toNat ae) ((List.getD aW (Int.toNat ae) aC).1,((List.getD aW (Int.toNat ae) aC).2.1,((List.getD aW (Int.toNat ae) aC).2.2.1,((List.getD aW (Int.toNat ae) aC).2.2.2.1,((List.getD aW (Int.toNat ae) aC).2.2.2.2.1,((List.getD aW (Int.toNat ae) aC).2.2.2.2.2++[a2]))))))) (Int.toNat aV) aC).2.1,((List.getD (List.set aW (Int.toNat ae) ((List.getD aW (Int.toNat ae) aC).1,((List.getD aW (Int.toNat ae) aC).2.1,((List.getD aW (Int.toNat ae) aC).2.2.1,((List.getD aW (Int.toNat ae) aC).2.2.2.1,((List.getD aW (Int.toNat ae) aC).2.2.2.2.1,((List.getD aW (Int.toNat ae) aC).2.2.2.2.2++[a2]))))))) (Int.toNat aV) aC).2.2.1,((List.getD (List.set aW (Int.toNat ae) ((List.getD aW (Int.toNat ae) aC).1,((List.getD aW (Int.toNat ae) aC).2.1,((List.getD aW (Int.toNat ae) aC).2.2.1,((List.getD aW (Int.toNat ae) aC).2.2.2.1,((List.getD aW (Int.toNat ae) aC).2.2.2.2.1,((List.getD aW (Int.toNat ae) aC).2.2.2.2.2++[a2]))))))) (Int.toNat aV) aC).2.2.2.1,((List.getD (List.set aW (Int.toNat ae) ((List.getD aW (Int.toNat ae) aC).1,((List.getD aW (Int.toNat ae) aC).2.1,((List.getD aW (Int.toNat ae) aC).2.2.1,((List.getD aW (Int.toNat ae) aC).2.2.2.1,((List.getD aW (Int.toNat ae) aC).2.2.2.2.1,((List.getD aW (Int.toNat ae) aC).2.2.2.2.2++[a2]))))))) (Int.toNat aV) aC).2.2.2.2.1,((List.getD (List.set aW (Int.toNat ae) ((List.getD aW (Int.toNat ae) aC).1,((List.getD aW (Int.toNat ae) aC).2.1,((List.getD aW (Int.toNat ae) aC).2.2.1,((List.getD aW (Int.toNat ae) aC).2.2.2.1,((List.getD aW (Int.toNat ae) aC).2.2.2.2.1,((List.getD aW (Int.toNat ae) aC).2.2.2.2.2++[a2]))))))) (Int.toNat aV) aC).2.2.2.2.2++[a1]))))))) (fun aO=>
                        bif (bC ae (List.length aO)) then
                         bif (bC ae (List.length aO)) then
                          bif (bC ae (List.length (List.set aO (Int.toNat ae) ((List.getD aO (Int.toNat ae) aC).1,((List.getD aO (Int.toNat ae) aC).2.1,((List.getD aO (Int.toNat ae) aC).2.2.1,((List.getD aO (Int.toNat ae) aC).2.2.2.1,((IntKind.wrap .i64 ((List.getD aO (Int.toNat ae) aC).2.2.2.2.1+(1:Int))),(List.getD aO (Int.toNat ae) aC).2.2.2.2.2)))))))) then
                           bif (bC ae (List.length (List.set aO (Int.toNat ae) ((List.getD aO (Int.toNat ae) aC).1,((List.getD aO (Int.toNat ae) aC).2.1,((List.getD aO (Int.toNat ae) aC).2.2.1,((List.getD aO (Int.toNat ae) aC).2.2.2.1,((IntKind.wrap .i64 ((List.getD aO (Int.toNat ae) aC).2.2.2.2.1+(1:Int))),(List.getD aO (Int.toNat ae) aC).2.2.2.2.2)))))))) then
                            share (List.set (List.set aO (Int.toNat ae) ((List.getD aO (Int.toNat ae) aC).1,((List.getD aO (Int.toNat ae) aC).2.1,((List.getD aO (Int.toNat ae) aC).2.2.1,((List.getD aO (Int.toNat ae) aC).2.2.2.1,((IntKind.wrap .i64 ((List.getD aO (Int.toNat ae) aC).2.2.2.2.1+(1:Int))),(List.getD aO (Int.toNat ae) aC).2.2.2.2.2)))))) (Int.toNat ae) ((List.getD (List.set aO (Int.toNat ae) ((List.getD aO (Int.toNat ae) aC).1,((List.getD aO (Int.toNat ae) aC).2.1,((List.getD aO (Int.toNat ae) aC).2.2.1,((List.getD aO (Int.toNat ae) aC).2.2.2.1,((IntKind.wrap .i64 ((List.getD aO (Int.toNat ae) aC).2.2.2.2.1+(1:Int))),(List.getD aO (Int.toNat ae) aC).2.2.2.2.2)))))) (Int.toNat ae) aC).1,((List.getD (List.set aO (Int.toNat ae) ((List.getD aO (Int.toNat ae) aC).1,((List.getD aO (Int.toNat ae) aC).2.1,((List.getD aO (Int.toNat ae) aC).2.2.1,((List.getD aO (Int.toNat ae) aC).2.2.2.1,((IntKind.wrap .i64 ((List.getD aO (Int.toNat ae) aC).2.2.2.2.1+(1:Int))),(List.getD aO (Int.toNat ae) aC).2.2.2.2.2)))))) (Int.toNat ae) aC).2.1,((List.getD (List.set aO (Int.toNat ae) ((List.getD aO (Int.toNat ae) aC).1,((List.getD aO (Int.toNat ae) aC).2.1,((List.getD aO (Int.toNat ae) aC).2.2.1,((List.getD aO (Int.toNat ae) aC).2.2.2.1,((IntKind.wrap .i64 ((List.getD aO (Int.toNat ae) aC).2.2.2.2.1+(1:Int))),(List.getD aO (Int.toNat ae) aC).2.2.2.2.2)))))) (Int.toNat ae) aC).2.2.1,((IntKind.wrap .i64 ((List.getD (List.set aO (Int.toNat ae) ((List.getD aO (Int.toNat ae) aC).1,((List.getD aO (Int.toNat ae) aC).2.1,((List.getD aO (Int.toNat ae) aC).2.2.1,((List.getD aO (Int.toNat ae) aC).2.2.2.1,((IntKind.wrap .i64 ((List.getD aO (Int.toNat ae) aC).2.2.2.2.1+(1:Int))),(List.getD aO (Int.toNat ae) aC).2.2.2.2.2)))))) (Int.toNat ae) aC).2.2.2.1+a4)),(List.getD (List.set aO (Int.toNat ae) ((List.getD aO (Int.toNat ae) aC).1,((List.getD aO (Int.toNat ae) aC).2.1,((List.getD aO (Int.toNat ae) aC).2.2.1,((List.getD aO (Int.toNat ae) aC).2.2.2.1,((IntKind.wrap .i64 ((List.getD aO (Int.toNat ae) aC).2.2.2.2.1+(1:Int))),(List.getD aO (Int.toNat ae) aC).2.2.2.2.2)))))) (Int.toNat ae) aC).2.2.2.2))))) (fun bG=>
                             bif (bC aV (List.length bG)) then
                              bif (bC aV (List.length bG)) then
                               bif (a3==(1:Int)) then
                                bif (bC ae (List.length (List.set bG (Int.toNat aV) ((List.getD bG (Int.toNat aV) aC).1,((List.getD bG (Int.toNat aV) aC).2.1,((List.getD bG (Int.toNat aV) aC).2.2.1,((IntKind.wrap .i64 ((List.getD bG (Int.toNat aV) aC).2.2.2.1+a5)),(List.getD bG (Int.toNat aV) aC).2.2.2.2))))))) then
                                 bif (bC ae (List.length (List.set bG (Int.toNat aV) ((List.getD bG (Int.toNat aV) aC).1,((List.getD bG (Int.toNat aV) aC).2.1,((List.getD bG (Int.toNat aV) aC).2.2.1,((IntKind.wrap .i64 ((List.getD bG (Int.toNat aV) aC).2.2.2.1+a5)),(List.getD bG (Int.toNat aV) aC).2.2.2.2))))))) then
                                  share (List.set (List.set bG (Int.toNat aV) ((List.getD bG (Int.toNat aV) aC).1,((List.getD bG (Int.toNat aV) aC).2.1,((List.getD bG (Int.toNat aV) aC).2.2.1,((IntKind.wrap .i64 ((List.getD bG (Int.toNat aV) aC).2.2.2.1+a5)),(List.getD bG (Int.toNat aV) aC).2.2.2.2))))) (Int.toNat ae) ((List.getD (List.set bG (Int.toNat aV) ((List.getD bG (Int.toNat aV) aC).1,((List.getD bG (Int.toNat aV) aC).2.1,((List.getD bG (Int.toNat aV) aC).2.2.1,((IntKind.wrap .i64 ((List.getD bG (Int.toNat aV) aC).2.2.2.1+a5)),(List.getD bG (Int.toNat aV) aC).2.2.2.2))))) (Int.toNat ae) aC).1,((List.getD (List.set bG (Int.toNat aV) ((List.getD bG (Int.toNat aV) aC).1,((List.getD bG (Int.toNat aV) aC).2.1,((List.getD bG (Int.toNat aV) aC).2.2.1,((IntKind.wrap .i64 ((List.getD bG (Int.toNat aV) aC).2.2.2.1+a5)),(List.getD bG (Int.toNat aV) aC).2.2.2.2))))) (Int.toNat ae) aC).2.1,((IntKind.wrap .i64 ((List.getD (List.set bG (Int.toNat aV) ((List.getD bG (Int.toNat aV) aC).1,((List.getD bG (Int.toNat aV) aC).2.1,((List.getD bG (Int.toNat aV) aC).2.2.1,((IntKind.wrap .i64 ((List.getD bG (Int.toNat aV) aC).2.2.2.1+a5)),(List.getD bG (Int.toNat aV) aC).2.2.2.2))))) (Int.toNat ae) aC).2.2.1+(1:Int))),(List.getD (List.set bG (Int.toNat aV) ((List.getD bG (Int.toNat aV) aC).1,((List.getD bG (Int.toNat aV) aC).2.1,((List.getD bG (Int.toNat aV) aC).2.2.1,((IntKind.wrap .i64 ((List.getD bG (Int.toNat aV) aC).2.2.2.1+a5)),(List.getD bG (Int.toNat aV) aC).2.2.2.2))))) (Int.toNat ae) aC).2.2.2)))) (fun S6=>
                                   DU N a0 kf S6)
                                 else none
                                else none
                               else
                                bif (bC aV (List.length (List.set bG (Int.toNat aV) ((List.getD bG (Int.toNat aV) aC).1,((List.getD bG (Int.toNat aV) aC).2.1,((List.getD bG (Int.toNat aV) aC).2.2.1,((IntKind.wrap .i64 ((List.getD bG (Int.toNat aV) aC).2.2.2.1+a5)),(List.getD bG (Int.toNat aV) aC).2.2.2.2))))))) then
                                 bif (bC aV (List.length (List.set bG (Int.toNat aV) ((List.getD bG (Int.toNat aV) aC).1,((List.getD bG (Int.toNat aV) aC).2.1,((List.getD bG (Int.toNat aV) aC).2.2.1,((IntKind.wrap .i64 ((List.getD bG (Int.toNat aV) aC).2.2.2.1+a5)),(List.getD bG (Int.toNat aV) aC).2.2.2.2))))))) then
                                  share (List.set (List.set bG (Int.toNat aV) ((List.getD bG (Int.toNat aV) aC).1,((List.getD bG (Int.toNat aV) aC).2.1,((List.getD bG (Int.toNat aV) aC).2.2.1,((IntKind.wrap .i64 ((List.getD bG (Int.toNat aV) aC).2.2.2.1+a5)),(List.getD bG (Int.toNat aV) aC).2.2.2.2))))) (Int.toNat aV) ((List.getD (List.set bG (Int.toNat aV) ((List.getD bG (Int.toNat aV) aC).1,((List.getD bG (Int.toNat aV) aC).2.1,((List.getD bG (Int.toNat aV) aC).2.2.1,((IntKind.wrap .i64 ((List.getD bG (Int.toNat aV) aC).2.2.2.1+a5)),(List.getD bG (Int.toNat aV) aC).2.2.2.2))))) (Int.toNat aV) aC).1,((List.getD (List.set bG (Int.toNat aV) ((List.getD bG (Int.toNat aV) aC).1,((List.getD bG (Int.toNat aV) aC).2.1,((List.getD bG (Int.toNat aV) aC).2.2.1,((IntKind.wrap .i64 ((List.getD bG (Int.toNat aV) aC).2.2.2.1+a5)),(List.getD bG (Int.toNat aV) aC).2.2.2.2))))) (Int.toNat aV) aC).2.1,((IntKind.wrap .i64 ((List.getD (List.set bG (Int.toNat aV) ((List.getD bG (Int.toNat aV) aC).1,((List.getD bG (Int.toNat aV) aC).2.1,((List.getD bG (Int.toNat aV) aC).2.2.1,((IntKind.wrap .i64 ((List.getD bG (Int.toNat aV) aC).2.2.2.1+a5)),(List.getD bG (Int.toNat aV) aC).2.2.2.2))))) (Int.toNat aV) aC).2.2.1+(1:Int))),(List.getD (List.set bG (Int.toNat aV) ((List.getD bG (Int.toNat aV) aC).1,((List.getD bG (Int.toNat aV) aC).2.1,((List.getD bG (Int.toNat aV) aC).2.2.1,((IntKind.wrap .i64 ((List.getD bG (Int.toNat aV) aC).2.2.2.1+a5)),(List.getD bG (Int.toNat aV) aC).2.2.2.2))))) (Int.toNat aV) aC).2.2.2)))) (fun arL=>
                                   DU N a0 kf arL)
                                 else none
                                else none
                              else none
                             else none)
                           else none
                          else none
                         else none
                        else none)
                      else none
                     else none
                    else none
                   else none
                  else none
                 else none
                else none
               else none)))))))
noncomputable def uE (a0:(List Int)) (a1:Int) (kf:(List Int)→Option ab) (mS:Int):Option ab:=
 bif (decide ((0:Int)≤(0:Int))&&decide ((0:Int)≤mS)&&decide (mS≤(List.length a0:Int))) then
  bif (decide ((0:Int)≤mS)&&decide (mS≤(List.length a0:Int))&&decide ((List.length a0:Int)≤(List.length a0:Int))) then
   bif (decide ((List.length ([]:(List Int))+List.length (List.drop (Int.toNat (0:Int)) (List.take (Int.toNat mS) a0)))*1≤4398046511104)) then
    bif (decide ((List.length (([]:(List Int))++(List.drop (Int.toNat (0:Int)) (List.take (Int.toNat mS) a0)))+List.length [a1])*1≤4398046511104)) then
     bif (decide ((List.length ((([]:(List Int))++(List.drop (Int.toNat (0:Int)) (List.take (Int.toNat mS) a0)))++[a1])+List.length (List.drop (Int.toNat mS) (List.take (Int.toNat (List.length a0:Int)) a0)))*1≤4398046511104)) then
      kf (((([]:(List Int))++(List.drop (Int.toNat (0:Int)) (List.take (Int.toNat mS) a0)))++[a1])++(List.drop (Int.toNat mS) (List.take (Int.toNat (List.length a0:Int)) a0)))
     else none
    else none
   else none
  else none
 else none
noncomputable def rC (af:(List Int)) (aM:Int):Nat→(Int→Option ab)→Int→Option ab
 |0,_,_=>none
 |Bo+1,cI,bH=>
  bif (decide (bH<(List.length af:Int))) then
   bif (bC bH (List.length af)) then
    bif (decide ((List.getD af (Int.toNat bH) (0:Int))<aM)) then
     (rC af aM Bo cI) (IntKind.wrap .i64 (bH+(1:Int)))
    else
     cI bH
   else none
  else
   cI bH
noncomputable def wE (N:Nat) (a0:(List Int)) (a1:Int) (kf:(List Int)→Option ab):Option ab:=
 rC a0 a1 N (fun mS=>
  bif (decide (mS<(List.length a0:Int))) then
   bif (bC mS (List.length a0)) then
    bif ((List.getD a0 (Int.toNat mS) (0:Int))==a1) then
     bif (decide ((List.length ([]:(List Int))+List.length a0)*1≤4398046511104)) then
      kf (([]:(List Int))++a0)
     else none
    else
     uE a0 a1 kf mS
   else none
  else
   uE a0 a1 kf mS) (0:Int)
noncomputable def tG (N:Nat) (gz:QC) (OP:QC):Nat→(QC→Bool→Option ab)→QC→Bool→Int→Option ab
 |0,_,_,_,_=>none
 |Zv+1,rD,eC,rE,nH=>
  bif (decide (nH<(List.length gz.2.2.1:Int))) then
   bif (bC nH (List.length gz.2.2.2.2.1)) then
    bif (bC nH (List.length gz.2.2.1)) then
     bif (bC nH (List.length gz.2.2.1)) then
      ZL N [(List.getD gz.2.2.2.2.1 (Int.toNat nH) gU)] (fun FY=>
       ZM N eC.1 (List.getD gz.2.2.1 (Int.toNat nH) dz).1 (List.getD gz.2.2.1 (Int.toNat nH) dz).2 FY (List.getD gz.2.2.2.2.1 (Int.toNat nH) gU).2.1 (List.getD gz.2.2.2.2.1 (Int.toNat nH) gU).2.2 (fun tH qN=>
        bif rE then
         bif (bC nH (List.length gz.2.2.2.1)) then
          FT N eC.2.1 (List.getD gz.2.2.2.1 (Int.toNat nH) (0:Int)) (fun gn=>
           bif (bC gn (List.length eC.2.1)) then
            bif (bC nH (List.length gz.2.2.1)) then
             bif (bC nH (List.length gz.2.2.1)) then
              wE N (List.getD eC.2.1 (Int.toNat gn) cY).2.2 (List.getD gz.2.2.1 (Int.toNat nH) dz).1 (fun FZ=>
               wE N FZ (List.getD gz.2.2.1 (Int.toNat nH) dz).2 (fun yx=>
                bif (bC gn (List.length eC.2.1)) then
                 (tG N gz OP Zv rD) (tH,((List.set eC.2.1 (Int.toNat gn) ((List.getD eC.2.1 (Int.toNat gn) cY).1,((List.getD eC.2.1 (Int.toNat gn) cY).2.1,yx))),eC.2.2)) qN (IntKind.wrap .i64 (nH+(1:Int)))
                else none))
             else none
            else none
           else none)
         else none
        else
         bif (bC nH (List.length gz.2.2.2.1)) then
          FT N eC.2.1 (List.getD gz.2.2.2.1 (Int.toNat nH) (0:Int)) (fun gp=>
           bif (bC gp (List.length eC.2.1)) then
            bif (bC nH (List.length gz.2.2.1)) then
             bif (bC nH (List.length gz.2.2.1)) then
              wE N (List.getD eC.2.1 (Int.toNat gp) cY).2.2 (List.getD gz.2.2.1 (Int.toNat nH) dz).1 (fun wz=>
               wE N wz (List.getD gz.2.2.1 (Int.toNat nH) dz).2 (fun yy=>
                bif (bC gp (List.length eC.2.1)) then
                 (tG N gz OP Zv rD) (tH,((List.set eC.2.1 (Int.toNat gp) ((List.getD eC.2.1 (Int.toNat gp) cY).1,((List.getD eC.2.1 (Int.toNat gp) cY).2.1,yy))),eC.2.2)) false (IntKind.wrap .i64 (nH+(1:Int)))
                else none))
             else none
            else none
           else none)
         else none))
     else none
    else none
   else none
  else
   rD eC rE
noncomputable def S27 (N:Nat) (a0:QC) (kf:QC→Bool→Option ab):Option ab:=
 Wo N a0 (fun vA=>
  Tj N a0 (fun dt=>
   bif (!dt) then
    kf vA false
   else
    S94 N a0 (fun FC=>
     bif (!FC) then
      kf vA false
     else
      ZJ N a0 (fun IE=>
       bif (decide ((List.length IE:Int)>(0:Int))) then
        kf vA false
       else
        tG N a0 (([]:(List QT)),(([]:(List QJ)),(([]:(List cg)),(([]:(List Int)),(([]:(List QB)),(([]:(List QL)),(0:Int))))))) N (fun ad2 avV=>
         ZI N a0 (ad2.1,(ad2.2.1,(([]:(List cg)),(([]:(List Int)),(([]:(List QB)),(ad2.2.2.2.2.2.1,(IntKind.wrap .i64 (a0.2.2.2.2.2.2+(List.length a0.2.2.1:Int))))))))) avV (5:Int) (0:Int) kf) vA true (0:Int)))))
noncomputable def oJ (aM:Int) (gy:Int) (db:QC) (J4:QC) (J5:QC):Nat→(Int→Option ab)→Int→Option ab
 |0,_,_=>none
 |n_8+1,cU,Bz=>
  bif (decide (Bz<(List.length db.1:Int))) then
   bif (bC Bz (List.length db.1)) then
    bif (decide ((List.getD db.1 (Int.toNat Bz) aC).1<aM)) then
     (oJ aM gy db J4 J5 n_8 cU) (IntKind.wrap .i64 (Bz+(1:Int)))
    else
     cU Bz
   else none
  else
   cU Bz
noncomputable def Tl (N:Nat) (a0:QC) (a1:Int) (a2:Int) (kf:QC→Bool→Option ab):Option ab:=
 Wo N a0 (fun da=>
  oJ a1 a2 a0 (([]:(List QT)),(([]:(List QJ)),(([]:(List cg)),(([]:(List Int)),(([]:(List QB)),(([]:(List QL)),(0:Int))))))) da N (fun pT=>
   bif (decide ((0:Int)≤(0:Int))&&decide ((0:Int)≤pT)&&decide (pT≤(List.length a0.1:Int))) then
    FQ N (List.drop (Int.toNat (0:Int)) (List.take (Int.toNat pT) a0.1)) (fun wF=>
     bif (decide ((List.length wF+List.length [(a1,(a2,((0:Int),((0:Int),((0:Int),([]:(List Int)))))))])*6≤4398046511104)) then
      bif (decide ((0:Int)≤pT)&&decide (pT≤(List.length a0.1:Int))&&decide ((List.length a0.1:Int)≤(List.length a0.1:Int))) then
       FQ N (List.drop (Int.toNat pT) (List.take (Int.toNat (List.length a0.1:Int)) a0.1)) (fun F0=>
        bif (decide ((List.length (wF++[(a1,(a2,((0:Int),((0:Int),((0:Int),([]:(List Int)))))))])+List.length F0)*6≤4398046511104)) then
         S94 N a0 (fun arM=>
          ZI N a0 (((wF++[(a1,(a2,((0:Int),((0:Int),((0:Int),([]:(List Int)))))))])++F0),da.2) (!arM) (1:Int) a1 kf)
        else none)
      else none
     else none)
   else none) (0:Int))
noncomputable def oK (aM:Int) (gy:Int) (db:QC) (J4:QC) (J5:QC):Nat→(Int→Option ab)→Int→Option ab
 |0,_,_=>none
 |n_8+1,cU,Bz=>
  bif (decide (Bz<(List.length db.2.1:Int))) then
   bif (bC Bz (List.length db.2.1)) then
    bif (decide ((List.getD db.2.1 (Int.toNat Bz) cY).1<aM)) then
     (oK aM gy db J4 J5 n_8 cU) (IntKind.wrap .i64 (Bz+(1:Int)))
    else
     cU Bz
   else none
  else
   cU Bz
noncomputable def ZN (N:Nat) (a0:QC) (a1:Int) (a2:Int) (kf:QC→Bool→Option ab):Option ab:=
 Wo N a0 (fun da=>
  oK a1 a2 a0 (([]:(List QT)),(([]:(List QJ)),(([]:(List cg)),(([]:(List Int)),(([]:(List QB)),(([]:(List QL)),(0:Int))))))) da N (fun pT=>
   bif (decide ((0:Int)≤(0:Int))&&decide ((0:Int)≤pT)&&decide (pT≤(List.length a0.2.1:Int))) then
    S7 N (List.drop (Int.toNat (0:Int)) (List.take (Int.toNat pT) a0.2.1)) (fun wF=>
     bif (decide ((List.length wF+List.length [(a1,(a2,([]:(List Int))))])*3≤4398046511104)) then
      bif (decide ((0:Int)≤pT)&&decide (pT≤(List.length a0.2.1:Int))&&decide ((List.length a0.2.1:Int)≤(List.length a0.2.1:Int))) then
       S7 N (List.drop (Int.toNat pT) (List.take (Int.toNat (List.length a0.2.1:Int)) a0.2.1)) (fun F0=>
        bif (decide ((List.length (wF++[(a1,(a2,([]:(List Int))))])+List.length F0)*3≤4398046511104)) then
         ZI N a0 (da.1,(((wF++[(a1,(a2,([]:(List Int))))])++F0),da.2.2)) true (2:Int) a1 kf
        else none)
      else none
     else none)
   else none) (0:Int))
noncomputable def Tm (N:Nat) (a0:QC) (a1:Int) (a2:Int) (a3:Int) (kf:QC→Bool→Option ab):Option ab:=
 Wo N a0 (fun fm=>
  Tj N a0 (fun pO=>
   bif (!pO) then
    kf fm false
   else
    iP N a1 (0:Int) (IntKind.wrap .i64 ((List.length a0.2.2.1:Int) - (1:Int))) (fun aV=>
     bif (!aV) then
      kf fm false
     else
      bif (bC a1 (List.length a0.2.2.2.2.1)) then
       bif (!((decide (((List.getD a0.2.2.2.2.1 (Int.toNat a1) gU).1:Int)=(0:Int)))&&((decide (((List.getD a0.2.2.2.2.1 (Int.toNat a1) gU).2.1:Int)=(0:Int)))&&(decide (((List.getD a0.2.2.2.2.1 (Int.toNat a1) gU).2.2:Int)=(0:Int)))))) then
        kf fm false
       else
        bif (bC a1 (List.length a0.2.2.2.1)) then
         bif (bC a1 (List.length fm.2.2.2.2.1)) then
          bif (bC a1 (List.length (List.set fm.2.2.2.2.1 (Int.toNat a1) ((List.getD a0.2.2.2.1 (Int.toNat a1) (0:Int)),(a2,a3))))) then
           bif (bC a1 (List.length a0.2.2.2.1)) then
            ON N (List.getD (List.set fm.2.2.2.2.1 (Int.toNat a1) ((List.getD a0.2.2.2.1 (Int.toNat a1) (0:Int)),(a2,a3))) (Int.toNat a1) gU) (fun adU=>
             ZI N a0 (fm.1,(fm.2.1,(fm.2.2.1,(fm.2.2.2.1,((List.set fm.2.2.2.2.1 (Int.toNat a1) ((List.getD a0.2.2.2.1 (Int.toNat a1) (0:Int)),(a2,a3))),fm.2.2.2.2.2))))) adU (4:Int) (List.getD a0.2.2.2.1 (Int.toNat a1) (0:Int)) kf)
           else none
          else none
         else none
        else none
      else none)))
noncomputable def gq (N:Nat) (Ws:QC):Nat→(gJ→QC→Option ab)→gJ→QC→Int→Option ab
 |0,_,_,_,_=>none
 |ai6+1,tI,apI,IF,OQ=>
  bif (decide (OQ>(0:Int))) then
   ve N apI (4:Int) (fun ad3 Wt=>
    bif (ad3==(0:Int)) then
     S21 N IF (fun arN axc=>
      (gq N Ws ai6 tI) Wt arN (IntKind.wrap .i64 (OQ - (1:Int))))
    else
     bif (ad3==(1:Int)) then
      S27 N IF (fun arO axd=>
       (gq N Ws ai6 tI) Wt arO (IntKind.wrap .i64 (OQ - (1:Int))))
     else
      ZJ N IF (fun Tn=>
       bif (decide ((List.length Tn:Int)>(0:Int))) then
        ve N Wt (20:Int) (fun ad4 avW=>
         bif (bC (0:Int) (List.length Tn)) then
          Bq N avW [(-2:Int),(1:Int),(3:Int)] (fun arP avX=>
           Tm N IF (List.getD Tn (Int.toNat (0:Int)) (0:Int)) (IntKind.wrap .i64 ((60:Int)+ad4)) (IntKind.wrap .i64 ((IntKind.wrap .i64 ((60:Int)+ad4))+arP)) (fun arQ axe=>
            (gq N Ws ai6 tI) avX arQ (IntKind.wrap .i64 (OQ - (1:Int)))))
         else none)
       else
        S21 N IF (fun arR axf=>
         (gq N Ws ai6 tI) Wt arR (IntKind.wrap .i64 (OQ - (1:Int))))))
  else
   tI apI IF
noncomputable def rF (N:Nat) (gy:QC):Nat→(gJ→QC→Option ab)→gJ→QC→Int→Option ab
 |0,_,_,_,_=>none
 |RL+1,Wu,wx,db,ai7=>
  ve N wx (3:Int) (fun avY ais=>
   bif (decide (ai7≤(IntKind.wrap .i64 ((2:Int)*(IntKind.wrap .i64 ((1:Int)+avY)))))) then
    Tl N db (IntKind.wrap .i64 ((2:Int)*ai7)) (IntKind.wrap .i64 ((1:Int)+(Int.tmod ai7 (3:Int)))) (fun avZ axg=>
     (rF N gy RL Wu) ais avZ (IntKind.wrap .i64 (ai7+(1:Int))))
   else
    Wu ais db)
noncomputable def rG (N:Nat) (av0:QC):Nat→(gJ→QC→Option ab)→gJ→QC→Int→Option ab
 |0,_,_,_,_=>none
 |axh+1,Wv,av1,apJ,ad5=>
  ve N av1 (4:Int) (fun arS apK=>
   bif (decide (ad5≤(IntKind.wrap .i64 ((2:Int)+arS)))) then
    ve N apK (2:Int) (fun arT av3=>
     ZN N apJ (IntKind.wrap .i64 ((10:Int)+ad5)) (IntKind.wrap .i64 ((4:Int)+arT)) (fun arU axi=>
      (rG N av0 axh Wv) av3 arU (IntKind.wrap .i64 (ad5+(1:Int)))))
   else
    Wv apK apJ)
noncomputable def J6 (N:Nat) (a0:gJ) (kf:QC→gJ→Option ab):Option ab:=
 S68 N (fun iZ=>
  rF N (([]:(List QT)),(([]:(List QJ)),(([]:(List cg)),(([]:(List Int)),(([]:(List QB)),(([]:(List QL)),(0:Int))))))) N (fun av4 av5=>
   rG N (([]:(List QT)),(([]:(List QJ)),(([]:(List cg)),(([]:(List Int)),(([]:(List QB)),(([]:(List QL)),(0:Int))))))) N (fun av6 av7=>
    ve N av6 (9:Int) (fun arV av8=>
     gq N (([]:(List QT)),(([]:(List QJ)),(([]:(List cg)),(([]:(List Int)),(([]:(List QB)),(([]:(List QL)),(0:Int))))))) N (fun av9 av'=>
      kf av' av9) av8 av7 arV)) av4 av5 (1:Int)) a0 iZ (1:Int))
noncomputable def S29 (N:Nat) (a0:(List Int)) (kf:QC→Int→Int→Option ab):Option ab:=
 S67 N a0 (fun iZ=>
  J6 N iZ (fun ad6 arW=>
   Bq N arW [(1:Int),(2:Int),(3:Int),(7:Int),(99:Int),(100:Int),(0:Int)] (fun FX arX=>
    Bq N arX [(1:Int),(2:Int),(99:Int),(100:Int)] (fun yq mS=>
     kf ad6 FX yq))))
noncomputable def S31 (N:Nat) (a0:(List Int)) (kf:QC→Int→Int→Option ab):Option ab:=
 S67 N a0 (fun iZ=>
  J6 N iZ (fun ad6 arW=>
   Bq N arW [(1:Int),(11:Int),(30:Int),(99:Int),(100:Int)] (fun FX arX=>
    Bq N arX [(1:Int),(5:Int),(99:Int),(100:Int)] (fun yq mS=>
     kf ad6 FX yq))))
noncomputable def S33 (N:Nat) (a0:(List Int)) (kf:QC→Option ab):Option ab:=
 S67 N a0 (fun Br=>
  J6 N Br (fun axj awa=>
   kf axj))
noncomputable def S34 (N:Nat) (a0:(List Int)) (kf:QC→Int→Int→Int→Option ab):Option ab:=
 S67 N a0 (fun da=>
  J6 N da (fun gD axk=>
   ve N axk (4:Int) (fun awb axl=>
    Bq N axl [(60:Int),(70:Int),(0:Int),(100:Int),(101:Int)] (fun yq axm=>
     Bq N axm [(65:Int),(70:Int),(0:Int),(100:Int),(-1:Int)] (fun awc axQ=>
      kf gD (IntKind.wrap .i64 (awb - (1:Int))) yq awc)))))
noncomputable def tJ (N:Nat) (OP:QC):Nat→(QC→Option ab)→QC→Int→Option ab
 |0,_,_,_=>none
 |n_9+1,oh,eC,rE=>
  bif (decide (rE>(0:Int))) then
   ZJ N eC (fun To=>
    bif (decide ((List.length To:Int)>(0:Int))) then
     bif (bC (0:Int) (List.length To)) then
      Tm N eC (List.getD To (Int.toNat (0:Int)) (0:Int)) (70:Int) (IntKind.wrap .i64 ((60:Int)+rE)) (fun arY axn=>
       (tJ N OP n_9 oh) arY (IntKind.wrap .i64 (rE - (1:Int))))
     else none
    else
     (tJ N OP n_9 oh) eC (IntKind.wrap .i64 (rE - (1:Int))))
  else
   oh eC
noncomputable def S36 (N:Nat) (a0:(List Int)) (kf:QC→Option ab):Option ab:=
 S67 N a0 (fun adq=>
  J6 N adq (fun Wj awa=>
   ve N awa (4:Int) (fun awd axR=>
    tJ N (([]:(List QT)),(([]:(List QJ)),(([]:(List cg)),(([]:(List Int)),(([]:(List QB)),(([]:(List QL)),(0:Int))))))) N kf Wj awd)))
noncomputable def Tp (N:Nat) (kf:QC→Int→Option ab) (ai8:gJ) (axo:QC):Option ab:=
 Bq N ai8 [(2:Int),(4:Int),(50:Int),(50:Int),(99:Int)] (fun awe axG=>
  kf axo awe)
noncomputable def S37 (N:Nat) (a0:(List Int)) (kf:QC→Int→Option ab):Option ab:=
 S67 N a0 (fun Bp=>
  J6 N Bp (fun Ow aiR=>
   ait N aiR (2:Int) (fun awf ai8=>
    bif awf then
     Tl N Ow (50:Int) (3:Int) (fun On axH=>
      Tp N kf ai8 On)
    else
     Tp N kf ai8 Ow)))
noncomputable def rH (af:(List Int)) (aM:(List Int)) (tF:Int):Nat→(Option ab)→(Bool→Option ab)→Int→Option ab
 |0,_,_,_=>none
 |kX+1,dX,dY,dG=>
  bif (decide (dG<tF)) then
   bif (bC dG (List.length af)) then
    bif (bC dG (List.length aM)) then
     bif ((List.getD af (Int.toNat dG) (0:Int)) != (List.getD aM (Int.toNat dG) (0:Int))) then
      dY false
     else
      (rH af aM tF kX dX dY) (IntKind.wrap .i64 (dG+(1:Int)))
    else none
   else none
  else
   dX
noncomputable def ZO (N:Nat) (a0:(List Int)) (a1:(List Int)) (kf:Bool→Option ab):Option ab:=
 bif ((List.length a0:Int) != (List.length a1:Int)) then
  kf false
 else
  rH a0 a1 (List.length a0:Int) N (kf true) kf (0:Int)
noncomputable def ai9 (N:Nat) (a0:QT) (a1:QT) (kf:Bool→Option ab):Option ab:=
 bif (a0.1==a1.1) then
  bif (a0.2.1==a1.2.1) then
   bif (a0.2.2.1==a1.2.2.1) then
    bif (a0.2.2.2.1==a1.2.2.2.1) then
     bif (a0.2.2.2.2.1==a1.2.2.2.2.1) then
      ZO N a0.2.2.2.2.2 a1.2.2.2.2.2 kf
     else
      kf false
    else
     kf false
   else
    kf false
  else
   kf false
 else
  kf false
noncomputable def rI (N:Nat) (fV:(List QT)) (fq:(List QT)) (OR:Int):Nat→(Option ab)→(Bool→Option ab)→Int→Option ab
 |0,_,_,_=>none
 |kX+1,dE,eX,pU=>
  bif (decide (pU<OR)) then
   bif (bC pU (List.length fq)) then
    bif (bC pU (List.length fV)) then
     ai9 N (List.getD fq (Int.toNat pU) aC) (List.getD fV (Int.toNat pU) aC) (fun F3=>
      bif (!F3) then
       eX false
      else
       (rI N fV fq OR kX dE eX) (IntKind.wrap .i64 (pU+(1:Int))))
    else none
   else none
  else
   dE
noncomputable def ai' (N:Nat) (a0:(List QT)) (a1:(List QT)) (kf:Bool→Option ab):Option ab:=
 bif ((List.length a0:Int) != (List.length a1:Int)) then
  kf false
 else
  rI N a1 a0 (List.length a0:Int) N (kf true) kf (0:Int)
noncomputable def aja (N:Nat) (a0:QJ) (a1:QJ) (kf:Bool→Option ab):Option ab:=
 bif (a0.1==a1.1) then
  bif (a0.2.1==a1.2.1) then
   ZO N a0.2.2 a1.2.2 kf
  else
   kf false
 else
  kf false
noncomputable def rJ (N:Nat) (fV:(List QJ)) (fq:(List QJ)) (OR:Int):Nat→(Option ab)→(Bool→Option ab)→Int→Option ab
 |0,_,_,_=>none
 |kX+1,dE,eX,pU=>
  bif (decide (pU<OR)) then
   bif (bC pU (List.length fq)) then
    bif (bC pU (List.length fV)) then
     aja N (List.getD fq (Int.toNat pU) cY) (List.getD fV (Int.toNat pU) cY) (fun F3=>
      bif (!F3) then
       eX false
      else
       (rJ N fV fq OR kX dE eX) (IntKind.wrap .i64 (pU+(1:Int))))
    else none
   else none
  else
   dE
noncomputable def ajb (N:Nat) (a0:(List QJ)) (a1:(List QJ)) (kf:Bool→Option ab):Option ab:=
 bif ((List.length a0:Int) != (List.length a1:Int)) then
  kf false
 else
  rJ N a1 a0 (List.length a0:Int) N (kf true) kf (0:Int)
noncomputable def rK (af:(List cg)) (aM:(List cg)) (tF:Int):Nat→(Option ab)→(Bool→Option ab)→Int→Option ab
 |0,_,_,_=>none
 |kX+1,dX,dY,dG=>
  bif (decide (dG<tF)) then
   bif (bC dG (List.length af)) then
    bif (bC dG (List.length aM)) then
     bif (!((decide (((List.getD af (Int.toNat dG) dz).1:Int)=(List.getD aM (Int.toNat dG) dz).1))&&(decide (((List.getD af (Int.toNat dG) dz).2:Int)=(List.getD aM (Int.toNat dG) dz).2)))) then
      dY false
     else
      (rK af aM tF kX dX dY) (IntKind.wrap .i64 (dG+(1:Int)))
    else none
   else none
  else
   dX
noncomputable def ajc (N:Nat) (a0:(List cg)) (a1:(List cg)) (kf:Bool→Option ab):Option ab:=
 bif ((List.length a0:Int) != (List.length a1:Int)) then
  kf false
 else
  rK a0 a1 (List.length a0:Int) N (kf true) kf (0:Int)
noncomputable def rL (af:(List QB)) (aM:(List QB)) (tF:Int):Nat→(Option ab)→(Bool→Option ab)→Int→Option ab
 |0,_,_,_=>none
 |kX+1,dX,dY,dG=>
  bif (decide (dG<tF)) then
   bif (bC dG (List.length af)) then
    bif (bC dG (List.length aM)) then
     bif (!((decide (((List.getD af (Int.toNat dG) gU).1:Int)=(List.getD aM (Int.toNat dG) gU).1))&&((decide (((List.getD af (Int.toNat dG) gU).2.1:Int)=(List.getD aM (Int.toNat dG) gU).2.1))&&(decide (((List.getD af (Int.toNat dG) gU).2.2:Int)=(List.getD aM (Int.toNat dG) gU).2.2))))) then
      dY false
     else
      (rL af aM tF kX dX dY) (IntKind.wrap .i64 (dG+(1:Int)))
    else none
   else none
  else
   dX
noncomputable def ajd (N:Nat) (a0:(List QB)) (a1:(List QB)) (kf:Bool→Option ab):Option ab:=
 bif ((List.length a0:Int) != (List.length a1:Int)) then
  kf false
 else
  rL a0 a1 (List.length a0:Int) N (kf true) kf (0:Int)
noncomputable def I42 (N:Nat) (a0:QC) (a1:QC) (kf:Bool→Option ab):Option ab:=
 bif (a0.2.2.2.2.2.2==a1.2.2.2.2.2.2) then
  ai' N a0.1 a1.1 (fun awg=>
   bif awg then
    ajb N a0.2.1 a1.2.1 (fun awh=>
     bif awh then
      ajc N a0.2.2.1 a1.2.2.1 (fun awi=>
       bif awi then
        ZO N a0.2.2.2.1 a1.2.2.2.1 (fun adP=>
         bif adP then
          ajd N a0.2.2.2.2.1 a1.2.2.2.2.1 (fun OG=>
           bif OG then
            S76 N a0.2.2.2.2.2.1 a1.2.2.2.2.2.1 kf
           else
            kf false)
         else
          kf false)
       else
        kf false)
     else
      kf false)
   else
    kf false)
 else
  kf false
abbrev b8:Type:=Nat→(List Int)→(Bool→Option ab)→Option ab
abbrev a8:Type:=Nat→(List Int)→(QC→Int→Int→Option ab)→Option ab
abbrev bc:Type:=Nat→QC→Int→Int→(QC→Bool→Option ab)→Option ab
abbrev bd:Type:=Nat→(List Int)→(QC→Option ab)→Option ab
abbrev bg:Type:=Nat→QC→(QC→Bool→Option ab)→Option ab
abbrev b9:Type:=Nat→(List Int)→(QC→Int→Int→Int→Option ab)→Option ab
abbrev ca:Type:=Nat→QC→Int→Int→Int→(QC→Bool→Option ab)→Option ab
abbrev cc:Type:=Nat→(List Int)→(QC→Int→Option ab)→Option ab
abbrev cd:Type:=Nat→QC→Int→(QC→Bool→Option ab)→Option ab
abbrev bh:Type:=Nat→QC→(Bool→Option ab)→Option ab
abbrev bL:Type:=Nat→(List QT)→Int→(Int→Option ab)→Option ab
abbrev bM:Type:=Nat→(List QL)→(List QL)→(Bool→Option ab)→Option ab
abbrev bO:Type:=Nat→QC→((List Int)→Option ab)→Option ab
abbrev bP:Type:=Nat→QC→QC→(Bool→Option ab)→Option ab
noncomputable def J7 (g0:b8) (g1:a8) (g2:bc) (g3:a8) (g4:bc) (g5:bd) (g6:bg) (g7:b9) (g8:ca) (g9:bd) (g10:bg) (g11:cc) (g12:cd) (g13:bh) (g14:bL) (g15:bM) (g16:bh) (g17:bO) (g18:bP) (N:Nat) (ai:QC) (ah:QC) (aj:Bool) (lN:Bool) (kf:Bool→Option ab):Option ab:=
 bif lN then
  bif aj then
   kf true
  else
   g18 N ai ah kf
 else
  kf false
noncomputable def DV (g0:b8) (g1:a8) (g2:bc) (g3:a8) (g4:bc) (g5:bd) (g6:bg) (g7:b9) (g8:ca) (g9:bd) (g10:bg) (g11:cc) (g12:cd) (g13:bh) (g14:bL) (g15:bM) (g16:bh) (g17:bO) (g18:bP) (N:Nat) (an:QC) (ao:QC) (aq:Bool) (ai:QC) (ah:QC) (aj:Bool) (ft:Bool) (kf:Bool→Option ab) (J:QC→QC→Bool→Bool→Option ab):Option ab:=
 bif ft then
  bif aq then
   J ai ah aj true
  else
   g18 N an ao (fun aje=>
    J ai ah aj aje)
 else
  J ai ah aj false
noncomputable def J8 (g0:b8) (g1:a8) (g2:bc) (g3:a8) (g4:bc) (g5:bd) (g6:bg) (g7:b9) (g8:ca) (g9:bd) (g10:bg) (g11:cc) (g12:cd) (g13:bh) (g14:bL) (g15:bM) (g16:bh) (g17:bO) (g18:bP) (N:Nat) (an:QC) (ao:QC) (aq:Bool) (ai:QC) (ah:QC) (aj:Bool) (ft:Bool) (kf:Bool→Option ab):Option ab:=DV g0 g1 g2 g3 g4 g5 g6 g7 g8 g9 g10 g11 g12 g13 g14 g15 g16 g17 g18 N an ao aq ai ah aj ft kf (fun ai ah aj lN=>J7 g0 g1 g2 g3 g4 g5 g6 g7 g8 g9 g10 g11 g12 g13 g14 g15 g16 g17 g18 N ai ah aj lN kf)
noncomputable def DW (g0:b8) (g1:a8) (g2:bc) (g3:a8) (g4:bc) (g5:bd) (g6:bg) (g7:b9) (g8:ca) (g9:bd) (g10:bg) (g11:cc) (g12:cd) (g13:bh) (g14:bL) (g15:bM) (g16:bh) (g17:bO) (g18:bP) (N:Nat) (ar:QC) (au:QC) (aw:Bool) (an:QC) (ao:QC) (aq:Bool) (ai:QC) (ah:QC) (aj:Bool) (fu:Bool) (kf:Bool→Option ab) (J:QC→QC→Bool→QC→QC→Bool→Bool→Option ab):Option ab:=
 bif fu then
  bif aw then
   J an ao aq ai ah aj true
  else
   g18 N ar au (fun ajf=>
    J an ao aq ai ah aj ajf)
 else
  J an ao aq ai ah aj false
noncomputable def J9 (g0:b8) (g1:a8) (g2:bc) (g3:a8) (g4:bc) (g5:bd) (g6:bg) (g7:b9) (g8:ca) (g9:bd) (g10:bg) (g11:cc) (g12:cd) (g13:bh) (g14:bL) (g15:bM) (g16:bh) (g17:bO) (g18:bP) (N:Nat) (ar:QC) (au:QC) (aw:Bool) (an:QC) (ao:QC) (aq:Bool) (ai:QC) (ah:QC) (aj:Bool) (fu:Bool) (kf:Bool→Option ab):Option ab:=DW g0 g1 g2 g3 g4 g5 g6 g7 g8 g9 g10 g11 g12 g13 g14 g15 g16 g17 g18 N ar au aw an ao aq ai ah aj fu kf (fun an ao aq ai ah aj ft=>J8 g0 g1 g2 g3 g4 g5 g6 g7 g8 g9 g10 g11 g12 g13 g14 g15 g16 g17 g18 N an ao aq ai ah aj ft kf)
noncomputable def yz (g0:b8) (g1:a8) (g2:bc) (g3:a8) (g4:bc) (g5:bd) (g6:bg) (g7:b9) (g8:ca) (g9:bd) (g10:bg) (g11:cc) (g12:cd) (g13:bh) (g14:bL) (g15:bM) (g16:bh) (g17:bO) (g18:bP) (N:Nat) (az:QC) (ay:QC) (aA:Bool) (ar:QC) (au:QC) (aw:Bool) (an:QC) (ao:QC) (aq:Bool) (ai:QC) (ah:QC) (aj:Bool) (fv:Bool) (kf:Bool→Option ab) (J:QC→QC→Bool→QC→QC→Bool→QC→QC→Bool→Bool→Option ab):Option ab:=
 bif fv then
  bif aA then
   J ar au aw an ao aq ai ah aj true
  else
   g18 N az ay (fun ajg=>
    J ar au aw an ao aq ai ah aj ajg)
 else
  J ar au aw an ao aq ai ah aj false
noncomputable def F4 (g0:b8) (g1:a8) (g2:bc) (g3:a8) (g4:bc) (g5:bd) (g6:bg) (g7:b9) (g8:ca) (g9:bd) (g10:bg) (g11:cc) (g12:cd) (g13:bh) (g14:bL) (g15:bM) (g16:bh) (g17:bO) (g18:bP) (N:Nat) (az:QC) (ay:QC) (aA:Bool) (ar:QC) (au:QC) (aw:Bool) (an:QC) (ao:QC) (aq:Bool) (ai:QC) (ah:QC) (aj:Bool) (fv:Bool) (kf:Bool→Option ab):Option ab:=yz g0 g1 g2 g3 g4 g5 g6 g7 g8 g9 g10 g11 g12 g13 g14 g15 g16 g17 g18 N az ay aA ar au aw an ao aq ai ah aj fv kf (fun ar au aw an ao aq ai ah aj fu=>J9 g0 g1 g2 g3 g4 g5 g6 g7 g8 g9 g10 g11 g12 g13 g14 g15 g16 g17 g18 N ar au aw an ao aq ai ah aj fu kf)
noncomputable def yA (g0:b8) (g1:a8) (g2:bc) (g3:a8) (g4:bc) (g5:bd) (g6:bg) (g7:b9) (g8:ca) (g9:bd) (g10:bg) (g11:cc) (g12:cd) (g13:bh) (g14:bL) (g15:bM) (g16:bh) (g17:bO) (g18:bP) (N:Nat) (aS:QC) (aB:QC) (aD:Bool) (az:QC) (ay:QC) (aA:Bool) (ar:QC) (au:QC) (aw:Bool) (an:QC) (ao:QC) (aq:Bool) (ai:QC) (ah:QC) (aj:Bool) (fw:Bool) (kf:Bool→Option ab) (J:QC→QC→Bool→QC→QC→Bool→QC→QC→Bool→QC→QC→Bool→Bool→Option ab):Option ab:=
 bif fw then
  bif aD then
   J az ay aA ar au aw an ao aq ai ah aj true
  else
   g18 N aS aB (fun ajh=>
    J az ay aA ar au aw an ao aq ai ah aj ajh)
 else
  J az ay aA ar au aw an ao aq ai ah aj false
noncomputable def F5 (g0:b8) (g1:a8) (g2:bc) (g3:a8) (g4:bc) (g5:bd) (g6:bg) (g7:b9) (g8:ca) (g9:bd) (g10:bg) (g11:cc) (g12:cd) (g13:bh) (g14:bL) (g15:bM) (g16:bh) (g17:bO) (g18:bP) (N:Nat) (aS:QC) (aB:QC) (aD:Bool) (az:QC) (ay:QC) (aA:Bool) (ar:QC) (au:QC) (aw:Bool) (an:QC) (ao:QC) (aq:Bool) (ai:QC) (ah:QC) (aj:Bool) (fw:Bool) (kf:Bool→Option ab):Option ab:=yA g0 g1 g2 g3 g4 g5 g6 g7 g8 g9 g10 g11 g12 g13 g14 g15 g16 g17 g18 N aS aB aD az ay aA ar au aw an ao aq ai ah aj fw kf (fun az ay aA ar au aw an ao aq ai ah aj fv=>F4 g0 g1 g2 g3 g4 g5 g6 g7 g8 g9 g10 g11 g12 g13 g14 g15 g16 g17 g18 N az ay aA ar au aw an ao aq ai ah aj fv kf)
noncomputable def DX (g0:b8) (g1:a8) (g2:bc) (g3:a8) (g4:bc) (g5:bd) (g6:bg) (g7:b9) (g8:ca) (g9:bd) (g10:bg) (g11:cc) (g12:cd) (g13:bh) (g14:bL) (g15:bM) (g16:bh) (g17:bO) (g18:bP) (N:Nat) (a7:QC) (aX:QC) (aZ:Bool) (aS:QC) (aB:QC) (aD:Bool) (az:QC) (ay:QC) (aA:Bool) (ar:QC) (au:QC) (aw:Bool) (an:QC) (ao:QC) (aq:Bool) (ai:QC) (ah:QC) (aj:Bool) (fz:Bool) (kf:Bool→Option ab) (J:QC→QC→Bool→QC→QC→Bool→QC→QC→Bool→QC→QC→Bool→QC→QC→Bool→Bool→Option ab):Option ab:=
 bif fz then
  kf false
 else
  bif aZ then
   J aS aB aD az ay aA ar au aw an ao aq ai ah aj true
  else
   g18 N a7 aX (fun aji=>
    J aS aB aD az ay aA ar au aw an ao aq ai ah aj aji)
noncomputable def J' (g0:b8) (g1:a8) (g2:bc) (g3:a8) (g4:bc) (g5:bd) (g6:bg) (g7:b9) (g8:ca) (g9:bd) (g10:bg) (g11:cc) (g12:cd) (g13:bh) (g14:bL) (g15:bM) (g16:bh) (g17:bO) (g18:bP) (N:Nat) (a7:QC) (aX:QC) (aZ:Bool) (aS:QC) (aB:QC) (aD:Bool) (az:QC) (ay:QC) (aA:Bool) (ar:QC) (au:QC) (aw:Bool) (an:QC) (ao:QC) (aq:Bool) (ai:QC) (ah:QC) (aj:Bool) (fz:Bool) (kf:Bool→Option ab):Option ab:=DX g0 g1 g2 g3 g4 g5 g6 g7 g8 g9 g10 g11 g12 g13 g14 g15 g16 g17 g18 N a7 aX aZ aS aB aD az ay aA ar au aw an ao aq ai ah aj fz kf (fun aS aB aD az ay aA ar au aw an ao aq ai ah aj fw=>F5 g0 g1 g2 g3 g4 g5 g6 g7 g8 g9 g10 g11 g12 g13 g14 g15 g16 g17 g18 N aS aB aD az ay aA ar au aw an ao aq ai ah aj fw kf)
noncomputable def DY (g0:b8) (g1:a8) (g2:bc) (g3:a8) (g4:bc) (g5:bd) (g6:bg) (g7:b9) (g8:ca) (g9:bd) (g10:bg) (g11:cc) (g12:cd) (g13:bh) (g14:bL) (g15:bM) (g16:bh) (g17:bO) (g18:bP) (N:Nat) (a7:QC) (aX:QC) (aZ:Bool) (aS:QC) (aB:QC) (aD:Bool) (az:QC) (ay:QC) (aA:Bool) (ar:QC) (au:QC) (aw:Bool) (an:QC) (ao:QC) (aq:Bool) (ai:QC) (aU:Int) (ah:QC) (aj:Bool) (fA:Bool) (kf:Bool→Option ab) (J:QC→QC→Bool→QC→QC→Bool→QC→QC→Bool→QC→QC→Bool→QC→QC→Bool→QC→QC→Bool→Bool→Option ab):Option ab:=
 bif fA then
  J a7 aX aZ aS aB aD az ay aA ar au aw an ao aq ai ah aj true
 else
  bif aj then
   g13 N ah (fun ajj=>
    bif (!ajj) then
     J a7 aX aZ aS aB aD az ay aA ar au aw an ao aq ai ah aj true
    else
     g14 N ah.1 aU (fun ajk=>
      J a7 aX aZ aS aB aD az ay aA ar au aw an ao aq ai ah aj (decide (ajk≥(0:Int)))))
  else
   J a7 aX aZ aS aB aD az ay aA ar au aw an ao aq ai ah aj false
noncomputable def Ka (g0:b8) (g1:a8) (g2:bc) (g3:a8) (g4:bc) (g5:bd) (g6:bg) (g7:b9) (g8:ca) (g9:bd) (g10:bg) (g11:cc) (g12:cd) (g13:bh) (g14:bL) (g15:bM) (g16:bh) (g17:bO) (g18:bP) (N:Nat) (a7:QC) (aX:QC) (aZ:Bool) (aS:QC) (aB:QC) (aD:Bool) (az:QC) (ay:QC) (aA:Bool) (ar:QC) (au:QC) (aw:Bool) (an:QC) (ao:QC) (aq:Bool) (ai:QC) (aU:Int) (ah:QC) (aj:Bool) (fA:Bool) (kf:Bool→Option ab):Option ab:=DY g0 g1 g2 g3 g4 g5 g6 g7 g8 g9 g10 g11 g12 g13 g14 g15 g16 g17 g18 N a7 aX aZ aS aB aD az ay aA ar au aw an ao aq ai aU ah aj fA kf (fun a7 aX aZ aS aB aD az ay aA ar au aw an ao aq ai ah aj fz=>J' g0 g1 g2 g3 g4 g5 g6 g7 g8 g9 g10 g11 g12 g13 g14 g15 g16 g17 g18 N a7 aX aZ aS aB aD az ay aA ar au aw an ao aq ai ah aj fz kf)
noncomputable def DZ (g0:b8) (g1:a8) (g2:bc) (g3:a8) (g4:bc) (g5:bd) (g6:bg) (g7:b9) (g8:ca) (g9:bd) (g10:bg) (g11:cc) (g12:cd) (g13:bh) (g14:bL) (g15:bM) (g16:bh) (g17:bO) (g18:bP) (N:Nat) (a7:QC) (aX:QC) (aZ:Bool) (aS:QC) (aB:QC) (aD:Bool) (az:QC) (ay:QC) (aA:Bool) (ar:QC) (au:QC) (aw:Bool) (an:QC) (ao:QC) (aq:Bool) (ai:QC) (aU:Int) (ah:QC) (aj:Bool) (fB:Bool) (kf:Bool→Option ab) (J:QC→QC→Bool→QC→QC→Bool→QC→QC→Bool→QC→QC→Bool→QC→QC→Bool→QC→Int→QC→Bool→Bool→Option ab):Option ab:=
 bif fB then
  J a7 aX aZ aS aB aD az ay aA ar au aw an ao aq ai aU ah aj true
 else
  bif aq then
   g13 N ao (fun ajl=>
    bif (!ajl) then
     J a7 aX aZ aS aB aD az ay aA ar au aw an ao aq ai aU ah aj true
    else
     g16 N ao (fun ajm=>
      bif ajm then
       J a7 aX aZ aS aB aD az ay aA ar au aw an ao aq ai aU ah aj true
      else
       J a7 aX aZ aS aB aD az ay aA ar au aw an ao aq ai aU ah aj (ao.2.2.2.2.2.2 != (IntKind.wrap .i64 (an.2.2.2.2.2.2+(List.length an.2.2.1:Int))))))
  else
   J a7 aX aZ aS aB aD az ay aA ar au aw an ao aq ai aU ah aj false
noncomputable def Kb (g0:b8) (g1:a8) (g2:bc) (g3:a8) (g4:bc) (g5:bd) (g6:bg) (g7:b9) (g8:ca) (g9:bd) (g10:bg) (g11:cc) (g12:cd) (g13:bh) (g14:bL) (g15:bM) (g16:bh) (g17:bO) (g18:bP) (N:Nat) (a7:QC) (aX:QC) (aZ:Bool) (aS:QC) (aB:QC) (aD:Bool) (az:QC) (ay:QC) (aA:Bool) (ar:QC) (au:QC) (aw:Bool) (an:QC) (ao:QC) (aq:Bool) (ai:QC) (aU:Int) (ah:QC) (aj:Bool) (fB:Bool) (kf:Bool→Option ab):Option ab:=DZ g0 g1 g2 g3 g4 g5 g6 g7 g8 g9 g10 g11 g12 g13 g14 g15 g16 g17 g18 N a7 aX aZ aS aB aD az ay aA ar au aw an ao aq ai aU ah aj fB kf (fun a7 aX aZ aS aB aD az ay aA ar au aw an ao aq ai aU ah aj fA=>Ka g0 g1 g2 g3 g4 g5 g6 g7 g8 g9 g10 g11 g12 g13 g14 g15 g16 g17 g18 N a7 aX aZ aS aB aD az ay aA ar au aw an ao aq ai aU ah aj fA kf)
noncomputable def D0 (g0:b8) (g1:a8) (g2:bc) (g3:a8) (g4:bc) (g5:bd) (g6:bg) (g7:b9) (g8:ca) (g9:bd) (g10:bg) (g11:cc) (g12:cd) (g13:bh) (g14:bL) (g15:bM) (g16:bh) (g17:bO) (g18:bP) (N:Nat) (a7:QC) (aX:QC) (aZ:Bool) (aS:QC) (aB:QC) (aD:Bool) (az:QC) (ay:QC) (aA:Bool) (ar:QC) (au:QC) (aw:Bool) (an:QC) (ao:QC) (aq:Bool) (ai:QC) (aU:Int) (ah:QC) (aj:Bool) (fC:Bool) (kf:Bool→Option ab) (J:QC→QC→Bool→QC→QC→Bool→QC→QC→Bool→QC→QC→Bool→QC→QC→Bool→QC→Int→QC→Bool→Bool→Option ab):Option ab:=
 bif fC then
  J a7 aX aZ aS aB aD az ay aA ar au aw an ao aq ai aU ah aj true
 else
  bif aw then
   g13 N au (fun ajn=>
    bif (!ajn) then
     J a7 aX aZ aS aB aD az ay aA ar au aw an ao aq ai aU ah aj true
    else
     g17 N au (fun ajo=>
      g17 N ar (fun ajp=>
       J a7 aX aZ aS aB aD az ay aA ar au aw an ao aq ai aU ah aj ((List.length ajo:Int) != (IntKind.wrap .i64 ((List.length ajp:Int) - (1:Int)))))))
  else
   J a7 aX aZ aS aB aD az ay aA ar au aw an ao aq ai aU ah aj false
noncomputable def Kc (g0:b8) (g1:a8) (g2:bc) (g3:a8) (g4:bc) (g5:bd) (g6:bg) (g7:b9) (g8:ca) (g9:bd) (g10:bg) (g11:cc) (g12:cd) (g13:bh) (g14:bL) (g15:bM) (g16:bh) (g17:bO) (g18:bP) (N:Nat) (a7:QC) (aX:QC) (aZ:Bool) (aS:QC) (aB:QC) (aD:Bool) (az:QC) (ay:QC) (aA:Bool) (ar:QC) (au:QC) (aw:Bool) (an:QC) (ao:QC) (aq:Bool) (ai:QC) (aU:Int) (ah:QC) (aj:Bool) (fC:Bool) (kf:Bool→Option ab):Option ab:=D0 g0 g1 g2 g3 g4 g5 g6 g7 g8 g9 g10 g11 g12 g13 g14 g15 g16 g17 g18 N a7 aX aZ aS aB aD az ay aA ar au aw an ao aq ai aU ah aj fC kf (fun a7 aX aZ aS aB aD az ay aA ar au aw an ao aq ai aU ah aj fB=>Kb g0 g1 g2 g3 g4 g5 g6 g7 g8 g9 g10 g11 g12 g13 g14 g15 g16 g17 g18 N a7 aX aZ aS aB aD az ay aA ar au aw an ao aq ai aU ah aj fB kf)
noncomputable def D1 (g0:b8) (g1:a8) (g2:bc) (g3:a8) (g4:bc) (g5:bd) (g6:bg) (g7:b9) (g8:ca) (g9:bd) (g10:bg) (g11:cc) (g12:cd) (g13:bh) (g14:bL) (g15:bM) (g16:bh) (g17:bO) (g18:bP) (N:Nat) (a7:QC) (aX:QC) (aZ:Bool) (aS:QC) (aB:QC) (aD:Bool) (az:QC) (ay:QC) (aA:Bool) (ar:QC) (au:QC) (aw:Bool) (an:QC) (ao:QC) (aq:Bool) (ai:QC) (aU:Int) (ah:QC) (aj:Bool) (fD:Bool) (kf:Bool→Option ab) (J:QC→QC→Bool→QC→QC→Bool→QC→QC→Bool→QC→QC→Bool→QC→QC→Bool→QC→Int→QC→Bool→Bool→Option ab):Option ab:=
 bif fD then
  J a7 aX aZ aS aB aD az ay aA ar au aw an ao aq ai aU ah aj true
 else
  bif aA then
   g13 N ay (fun ajq=>
    bif (!ajq) then
     J a7 aX aZ aS aB aD az ay aA ar au aw an ao aq ai aU ah aj true
    else
     g16 N ay (fun ajr=>
      bif (!ajr) then
       J a7 aX aZ aS aB aD az ay aA ar au aw an ao aq ai aU ah aj true
      else
       g17 N ay (fun ajs=>
        J a7 aX aZ aS aB aD az ay aA ar au aw an ao aq ai aU ah aj ((List.length ajs:Int) != (List.length ay.2.2.1:Int)))))
  else
   J a7 aX aZ aS aB aD az ay aA ar au aw an ao aq ai aU ah aj false
noncomputable def Ke (g0:b8) (g1:a8) (g2:bc) (g3:a8) (g4:bc) (g5:bd) (g6:bg) (g7:b9) (g8:ca) (g9:bd) (g10:bg) (g11:cc) (g12:cd) (g13:bh) (g14:bL) (g15:bM) (g16:bh) (g17:bO) (g18:bP) (N:Nat) (a7:QC) (aX:QC) (aZ:Bool) (aS:QC) (aB:QC) (aD:Bool) (az:QC) (ay:QC) (aA:Bool) (ar:QC) (au:QC) (aw:Bool) (an:QC) (ao:QC) (aq:Bool) (ai:QC) (aU:Int) (ah:QC) (aj:Bool) (fD:Bool) (kf:Bool→Option ab):Option ab:=D1 g0 g1 g2 g3 g4 g5 g6 g7 g8 g9 g10 g11 g12 g13 g14 g15 g16 g17 g18 N a7 aX aZ aS aB aD az ay aA ar au aw an ao aq ai aU ah aj fD kf (fun a7 aX aZ aS aB aD az ay aA ar au aw an ao aq ai aU ah aj fC=>Kc g0 g1 g2 g3 g4 g5 g6 g7 g8 g9 g10 g11 g12 g13 g14 g15 g16 g17 g18 N a7 aX aZ aS aB aD az ay aA ar au aw an ao aq ai aU ah aj fC kf)
noncomputable def D2 (g0:b8) (g1:a8) (g2:bc) (g3:a8) (g4:bc) (g5:bd) (g6:bg) (g7:b9) (g8:ca) (g9:bd) (g10:bg) (g11:cc) (g12:cd) (g13:bh) (g14:bL) (g15:bM) (g16:bh) (g17:bO) (g18:bP) (N:Nat) (a7:QC) (aX:QC) (aZ:Bool) (aS:QC) (aB:QC) (aD:Bool) (az:QC) (ay:QC) (aA:Bool) (ar:QC) (au:QC) (aw:Bool) (an:QC) (ao:QC) (aq:Bool) (ai:QC) (aU:Int) (ah:QC) (aj:Bool) (fE:Bool) (kf:Bool→Option ab) (J:QC→QC→Bool→QC→QC→Bool→QC→QC→Bool→QC→QC→Bool→QC→QC→Bool→QC→Int→QC→Bool→Bool→Option ab):Option ab:=
 bif fE then
  J a7 aX aZ aS aB aD az ay aA ar au aw an ao aq ai aU ah aj true
 else
  bif aD then
   g13 N aB (fun ajt=>
    bif (!ajt) then
     J a7 aX aZ aS aB aD az ay aA ar au aw an ao aq ai aU ah aj true
    else
     J a7 aX aZ aS aB aD az ay aA ar au aw an ao aq ai aU ah aj ((List.length aB.2.1:Int) != (IntKind.wrap .i64 ((List.length aS.2.1:Int)+(1:Int)))))
  else
   J a7 aX aZ aS aB aD az ay aA ar au aw an ao aq ai aU ah aj false
noncomputable def Kf (g0:b8) (g1:a8) (g2:bc) (g3:a8) (g4:bc) (g5:bd) (g6:bg) (g7:b9) (g8:ca) (g9:bd) (g10:bg) (g11:cc) (g12:cd) (g13:bh) (g14:bL) (g15:bM) (g16:bh) (g17:bO) (g18:bP) (N:Nat) (a7:QC) (aX:QC) (aZ:Bool) (aS:QC) (aB:QC) (aD:Bool) (az:QC) (ay:QC) (aA:Bool) (ar:QC) (au:QC) (aw:Bool) (an:QC) (ao:QC) (aq:Bool) (ai:QC) (aU:Int) (ah:QC) (aj:Bool) (fE:Bool) (kf:Bool→Option ab):Option ab:=D2 g0 g1 g2 g3 g4 g5 g6 g7 g8 g9 g10 g11 g12 g13 g14 g15 g16 g17 g18 N a7 aX aZ aS aB aD az ay aA ar au aw an ao aq ai aU ah aj fE kf (fun a7 aX aZ aS aB aD az ay aA ar au aw an ao aq ai aU ah aj fD=>Ke g0 g1 g2 g3 g4 g5 g6 g7 g8 g9 g10 g11 g12 g13 g14 g15 g16 g17 g18 N a7 aX aZ aS aB aD az ay aA ar au aw an ao aq ai aU ah aj fD kf)
noncomputable def aju (g0:b8) (g1:a8) (g2:bc) (g3:a8) (g4:bc) (g5:bd) (g6:bg) (g7:b9) (g8:ca) (g9:bd) (g10:bg) (g11:cc) (g12:cd) (g13:bh) (g14:bL) (g15:bM) (g16:bh) (g17:bO) (g18:bP) (N:Nat) (a0:(List Int)) (kf:Bool→Option ab) (J:QC→QC→Bool→QC→QC→Bool→QC→QC→Bool→QC→QC→Bool→QC→QC→Bool→QC→Int→QC→Bool→Bool→Option ab):Option ab:=
 g0 N a0 (fun awj=>
  bif awj then
   kf true
  else
   g1 N a0 (fun a7 apL awk=>
    g2 N a7 apL awk (fun aX aZ=>
     g3 N a0 (fun aS awl awm=>
      g4 N aS awl awm (fun aB aD=>
       g5 N a0 (fun az=>
        g6 N az (fun ay aA=>
         g7 N a0 (fun ar arZ ar0 ar1=>
          g8 N ar arZ ar0 ar1 (fun au aw=>
           g9 N a0 (fun an=>
            g10 N an (fun ao aq=>
             g11 N a0 (fun ai aU=>
              g12 N ai aU (fun ah aj=>
               bif aZ then
                g13 N aX (fun ajv=>
                 bif (!ajv) then
                  J a7 aX aZ aS aB aD az ay aA ar au aw an ao aq ai aU ah aj true
                 else
                  g14 N aX.1 apL (fun ajw=>
                   bif (decide (ajw<(0:Int))) then
                    J a7 aX aZ aS aB aD az ay aA ar au aw an ao aq ai aU ah aj true
                   else
                    g15 N aX.2.2.2.2.2.1 a7.2.2.2.2.2.1 (fun ajx=>
                     J a7 aX aZ aS aB aD az ay aA ar au aw an ao aq ai aU ah aj (!ajx))))
               else
                J a7 aX aZ aS aB aD az ay aA ar au aw an ao aq ai aU ah aj false)))))))))))))
noncomputable def ar2 (g0:b8) (g1:a8) (g2:bc) (g3:a8) (g4:bc) (g5:bd) (g6:bg) (g7:b9) (g8:ca) (g9:bd) (g10:bg) (g11:cc) (g12:cd) (g13:bh) (g14:bL) (g15:bM) (g16:bh) (g17:bO) (g18:bP) (N:Nat) (a0:(List Int)) (kf:Bool→Option ab):Option ab:=aju g0 g1 g2 g3 g4 g5 g6 g7 g8 g9 g10 g11 g12 g13 g14 g15 g16 g17 g18 N a0 kf (fun a7 aX aZ aS aB aD az ay aA ar au aw an ao aq ai aU ah aj fE=>Kf g0 g1 g2 g3 g4 g5 g6 g7 g8 g9 g10 g11 g12 g13 g14 g15 g16 g17 g18 N a7 aX aZ aS aB aD az ay aA ar au aw an ao aq ai aU ah aj fE kf)
noncomputable def L6 (N:Nat) (a0:(List Int)) (kf:Bool→Option ab):Option ab:=ar2 L11 S29 I30 S31 I32 S33 I23 S34 I35 S36 I28 S37 I38 RM HN I15 Om I41 I42 N a0 kf
noncomputable def nI (N:Nat) (a0:QC) (a1:Int) (kf:QC→Bool→Option ab):Option ab:=
 Wo N a0 (fun iZ=>
  wC N a0.1 a1 (fun gD=>
   bif (decide (gD<(0:Int))) then
    kf iZ false
   else
    S94 N a0 (fun FC=>
     bif FC then
      kf iZ false
     else
      bif (bC gD (List.length a0.1)) then
       bif (decide ((List.length (List.getD a0.1 (Int.toNat gD) aC).2.2.2.2.2:Int)>(0:Int))) then
        kf iZ false
       else
        bif (decide ((0:Int)≤(0:Int))&&decide ((0:Int)≤gD)&&decide (gD≤(List.length a0.1:Int))) then
         bif (decide ((0:Int)≤(IntKind.wrap .i64 (gD+(1:Int))))&&decide ((IntKind.wrap .i64 (gD+(1:Int)))≤(List.length a0.1:Int))&&decide ((List.length a0.1:Int)≤(List.length a0.1:Int))) then
          FQ N (List.drop (Int.toNat (0:Int)) (List.take (Int.toNat gD) a0.1)) (fun apM=>
           FQ N (List.drop (Int.toNat (IntKind.wrap .i64 (gD+(1:Int)))) (List.take (Int.toNat (List.length a0.1:Int)) a0.1)) (fun aX=>
            bif (decide ((List.length apM+List.length aX)*6≤4398046511104)) then
             ZI N a0 ((apM++aX),iZ.2) true (6:Int) a1 kf
            else none))
         else none
        else none
      else none)))
noncomputable def sn (N:Nat) (a0:QC) (a1:QL) (kf:QC→Bool→Option ab):Option ab:=
 bif (a1.1==(1:Int)) then
  Tl N a0 a1.2.1 a1.2.2.1 kf
 else
  bif (a1.1==(2:Int)) then
   ZN N a0 a1.2.1 a1.2.2.1 kf
  else
   bif (a1.1==(3:Int)) then
    S21 N a0 kf
   else
    bif (a1.1==(4:Int)) then
     Tm N a0 a1.2.2.2 a1.2.1 a1.2.2.1 kf
    else
     bif (a1.1==(5:Int)) then
      S27 N a0 kf
     else
      bif (a1.1==(6:Int)) then
       nI N a0 a1.2.1 kf
      else
       Wo N a0 (fun ay=>
        kf ay false)
end Go.Pv.R
