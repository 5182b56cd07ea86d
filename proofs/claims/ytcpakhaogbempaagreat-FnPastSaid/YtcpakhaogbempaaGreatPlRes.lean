/- What the functions compute, as plain functions. -/
import Derived.Test.YtcpakhaogbempaaGreatPv4
namespace Go.Pv.R
set_option linter.unusedVariables false
set_option linter.unusedSimpArgs false
abbrev jT:Ty:=(.pair (.int .i64) (.pair (.int .i64) (.sl (.int .i64))))
abbrev QJ:Type:=(Int×(Int×(List Int)))
def cg:QJ:=((0:Int),((0:Int),([]:(List Int))))
abbrev cX:Ty:=(.pair (.int .i64) (.pair (.int .i64) (.pair (.int .i64) (.pair (.int .i64) (.pair (.int .i64) (.sl (.int .i64)))))))
abbrev QT:Type:=(Int×(Int×(Int×(Int×(Int×(List Int))))))
def aj:QT:=((0:Int),((0:Int),((0:Int),((0:Int),((0:Int),([]:(List Int)))))))
abbrev du:Ty:=(.pair (.int .i64) (.int .i64))
abbrev bJ:Type:=(Int×Int)
def dm:bJ:=((0:Int),(0:Int))
abbrev ux:Ty:=(.pair (.int .i64) (.pair (.int .i64) (.int .i64)))
abbrev QB:Type:=(Int×(Int×Int))
def gQ:QB:=((0:Int),((0:Int),(0:Int)))
abbrev iZ:Ty:=(.pair (.int .i64) (.pair (.int .i64) (.pair (.int .i64) (.int .i64))))
abbrev QL:Type:=(Int×(Int×(Int×Int)))
def mZ:QL:=((0:Int),((0:Int),((0:Int),(0:Int))))
abbrev db:Ty:=(.pair (.sl (.int .u8)) (.pair (.int .i64) (.int .i64)))
abbrev dY:Type:=((List Int)×(Int×Int))
abbrev dd:Ty:=(.pair (.sl cX) (.pair (.sl jT) (.pair (.sl du) (.pair (.sl (.int .i64)) (.pair (.sl ux) (.pair (.sl iZ) (.int .i64)))))))
abbrev QC:Type:=((List QT)×((List QJ)×((List bJ)×((List Int)×((List QB)×((List QL)×Int))))))
noncomputable def aL:ByteArray:=⟨#[0,1,2,2,3,3,3,3,4,4,4,4,4,4,4,4,5,5,5,5,5,5,5,5,5,5,5,5,5,5,5,5,6,6,6,6,6,6,6,6,6,6,6,6,6,6,6,6,6,6,6,6,6,6,6,6,6,6,6,6,6,6,6,6,7,7,7,7,7,7,7,7,7,7,7,7,7,7,7,7,7,7,7,7,7,7,7,7,7,7,7,7,7,7,7,7,7,7,7,7,7,7,7,7,7,7,7,7,7,7,7,7,7,7,7,7,7,7,7,7,7,7,7,7,7,7,7,7,8,8,8,8,8,8,8,8,8,8,8,8,8,8,8,8,8,8,8,8,8,8,8,8,8,8,8,8,8,8,8,8,8,8,8,8,8,8,8,8,8,8,8,8,8,8,8,8,8,8,8,8,8,8,8,8,8,8,8,8,8,8,8,8,8,8,8,8,8,8,8,8,8,8,8,8,8,8,8,8,8,8,8,8,8,8,8,8,8,8,8,8,8,8,8,8,8,8,8,8,8,8,8,8,8,8,8,8,8,8,8,8,8,8,8,8,8,8,8,8,8,8,8,8,8,8,8,8]⟩
noncomputable def L11 (N:Nat) (a0:(List Int)) (kf:Bool→Option aa):Option aa:=
 kf (decide ((List.length a0:Int)>(1048576:Int)))
noncomputable def Ak (ae:(List Int)):Nat→(Int→Option aa)→Int→Int→Option aa
 |0,_,_,_=>none
 |ug+1,gA,ai,bz=>
  bif (decide (bz<(List.length ae:Int))) then
   bif (decide (bz<(4000:Int))) then
    bif (aQ bz (List.length ae)) then
     (Ak ae ug gA) (IntKind.wrap .i64 (BitVec.toNat (BitVec.ofInt (IntKind.bits .i64) (IntKind.wrap .i64 ((IntKind.wrap .i64 ((IntKind.wrap .i64 (ai*(137:Int)))+(IntKind.wrap .i64 (List.getD ae (Int.toNat bz) (0:Int)))))+(11:Int)))&&&BitVec.ofInt (IntKind.bits .i64) (1073741823:Int)))) (IntKind.wrap .i64 (bz+(1:Int)))
    else none
   else
    gA ai
  else
   gA ai
noncomputable def S67 (N:Nat) (a0:(List Int)) (kf:dY→Option aa):Option aa:=
 Ak a0 N (fun awQ=>
  kf (a0,((0:Int),awQ))) (IntKind.wrap .i64 ((193017:Int)+(List.length a0:Int))) (0:Int)
noncomputable def S68 (N:Nat) (kf:QC→Option aa):Option aa:=
 kf (([]:(List QT)),(([]:(List QJ)),(([]:(List bJ)),(([]:(List Int)),(([]:(List QB)),(([]:(List QL)),(0:Int)))))))
noncomputable def RI (N:Nat) (a0:dY) (kf:Int→dY→Option aa):Option aa:=
 share (IntKind.wrap .i64 ((IntKind.wrap .i64 (a0.2.2*(6364136223846793005:Int)))+(1442695040888963407:Int))) (fun YS=>
  bif (decide (0≤(33:Int))) then
   bif (decide (0≤(47:Int))) then
    bif (decide (a0.2.1<(List.length a0.1:Int))) then
     bif (aQ a0.2.1 (List.length a0.1)) then
      kf (IntKind.wrap .i64 (BitVec.toNat (BitVec.ofInt (IntKind.bits .i64) (IntKind.wrap .i64 ((IntKind.wrap .i64 (BitVec.toNat (BitVec.ofInt (IntKind.bits .i64) (IntKind.wrap .i64 (BitVec.toNat (BitVec.ofInt (IntKind.bits .i64) (Int.fdiv YS (2^(min (Int.toNat (33:Int)) (IntKind.bits .i64))))^^^BitVec.ofInt (IntKind.bits .i64) (Int.fdiv YS (2^(min (Int.toNat (47:Int)) (IntKind.bits .i64)))))))&&&BitVec.ofInt (IntKind.bits .i64) (255:Int))))+(IntKind.wrap .i64 (List.getD a0.1 (Int.toNat a0.2.1) (0:Int)))))&&&BitVec.ofInt (IntKind.bits .i64) (255:Int)))) (a0.1,((IntKind.wrap .i64 (a0.2.1+(1:Int))),YS))
     else none
    else
     kf (IntKind.wrap .i64 (BitVec.toNat (BitVec.ofInt (IntKind.bits .i64) (IntKind.wrap .i64 (BitVec.toNat (BitVec.ofInt (IntKind.bits .i64) (Int.fdiv YS (2^(min (Int.toNat (33:Int)) (IntKind.bits .i64))))^^^BitVec.ofInt (IntKind.bits .i64) (Int.fdiv YS (2^(min (Int.toNat (47:Int)) (IntKind.bits .i64)))))))&&&BitVec.ofInt (IntKind.bits .i64) (255:Int)))) (a0.1,(a0.2.1,YS))
   else none
  else none)
noncomputable def mE (N:Nat) (a0:dY) (a1:Int) (kf:Int→dY→Option aa):Option aa:=
 bif (decide (a1≤(0:Int))) then
  kf (0:Int) a0
 else
  bif (decide (a1≤(256:Int))) then
   RI N a0 (fun eB ry=>
    bif (!decide (a1=0)) then
     kf (Int.tmod eB a1) ry
    else none)
  else
   RI N a0 (fun acn aqM=>
    RI N aqM (fun aco aqN=>
     RI N aqN (fun xA acp=>
      bif (!decide (a1=0)) then
       kf (Int.tmod (IntKind.wrap .i64 ((IntKind.wrap .i64 ((IntKind.wrap .i64 (acn*(65536:Int)))+(IntKind.wrap .i64 (aco*(256:Int)))))+xA)) a1) acp
      else none)))
noncomputable def YT (N:Nat) (a0:dY) (a1:Int) (kf:Bool→dY→Option aa):Option aa:=
 mE N a0 a1 (fun EP ry=>
  kf (EP==(0:Int)) ry)
noncomputable def Nv (N:Nat) (a0:dY) (a1:(List Int)) (kf:Int→dY→Option aa):Option aa:=
 mE N a0 (List.length a1:Int) (fun iI ry=>
  bif (aQ iI (List.length a1)) then
   kf (List.getD a1 (Int.toNat iI) (0:Int)) ry
  else none)
noncomputable def aiu (N:Nat) (a0:dY) (kf:QL→dY→Option aa):Option aa:=
 Nv N a0 [(1:Int),(2:Int),(3:Int),(3:Int),(4:Int),(4:Int),(4:Int),(5:Int),(5:Int),(6:Int)] (fun Al ry=>
  bif (Al==(1:Int)) then
   mE N ry (9:Int) (fun acq aqM=>
    mE N aqM (3:Int) (fun Nw aqN=>
     kf (Al,((IntKind.wrap .i64 ((1:Int)+acq)),((IntKind.wrap .i64 ((1:Int)+Nw)),(0:Int)))) aqN))
  else
   bif (Al==(2:Int)) then
    mE N ry (5:Int) (fun au5 acp=>
     kf (Al,((IntKind.wrap .i64 ((11:Int)+au5)),((4:Int),(0:Int)))) acp)
   else
    bif (Al==(4:Int)) then
     mE N ry (3:Int) (fun au6 acr=>
      mE N acr (20:Int) (fun RJ au7=>
       mE N au7 (20:Int) (fun aqO acs=>
        kf (Al,((IntKind.wrap .i64 ((60:Int)+RJ)),((IntKind.wrap .i64 ((60:Int)+aqO)),au6))) acs)))
    else
     bif (Al==(6:Int)) then
      mE N ry (9:Int) (fun aqP au8=>
       kf (Al,((IntKind.wrap .i64 ((1:Int)+aqP)),((0:Int),(0:Int)))) au8)
     else
      kf (Al,((0:Int),((0:Int),(0:Int)))) ry)
noncomputable def Am (N:Nat):Nat→(dY→(List QL)→Option aa)→dY→(List QL)→Int→Option aa
 |0,_,_,_,_=>none
 |n_9+1,Vr,dZ,gR,so=>
  bif (decide (so>(0:Int))) then
   aiu N dZ (fun acu au9=>
    bif (decide ((List.length gR+List.length [acu])*4≤4398046511104)) then
     (Am N n_9 Vr) au9 (gR++[acu]) (IntKind.wrap .i64 (so - (1:Int)))
    else none)
  else
   Vr dZ gR
noncomputable def Jb (N:Nat) (kf:(List QL)→dY→Option aa) (ry:dY) (awR:(List QL)):Option aa:=
 mE N ry (14:Int) (fun au' awS=>
  Am N N (fun acs ava=>
   kf ava acs) awS awR au')
noncomputable def S69 (N:Nat) (a0:dY) (kf:(List QL)→dY→Option aa):Option aa:=
 YT N a0 (2:Int) (fun cu ry=>
  bif cu then
   bif (decide ((List.length [((1:Int),((2:Int),((1:Int),(0:Int)))),((1:Int),((4:Int),((2:Int),(0:Int)))),((2:Int),((11:Int),((4:Int),(0:Int)))),((2:Int),((12:Int),((5:Int),(0:Int))))]+List.length [((1:Int),((6:Int),((1:Int),(0:Int)))),((1:Int),((8:Int),((3:Int),(0:Int))))])*4≤4398046511104)) then
    Jb N kf ry ([((1:Int),((2:Int),((1:Int),(0:Int)))),((1:Int),((4:Int),((2:Int),(0:Int)))),((2:Int),((11:Int),((4:Int),(0:Int)))),((2:Int),((12:Int),((5:Int),(0:Int))))]++[((1:Int),((6:Int),((1:Int),(0:Int)))),((1:Int),((8:Int),((3:Int),(0:Int))))])
   else none
  else
   Jb N kf ry [((1:Int),((2:Int),((1:Int),(0:Int)))),((1:Int),((4:Int),((2:Int),(0:Int)))),((2:Int),((11:Int),((4:Int),(0:Int)))),((2:Int),((12:Int),((5:Int),(0:Int))))])
noncomputable def S12 (N:Nat) (a0:(List Int)) (kf:QC→(List QL)→Option aa):Option aa:=
 S67 N a0 (fun Al=>
  S68 N (fun awT=>
   S69 N Al (fun awU axr=>
    kf awT awU)))
noncomputable def Jc (N:Nat) (a0:(List Int)) (kf:(List Int)→Option aa):Option aa:=
 bif (List.isEmpty a0) then
  both (kf ([]:(List Int))) (
   bif (decide ((List.length ([]:(List Int))+List.length a0)*1≤4398046511104)) then
    kf (([]:(List Int))++a0)
   else none)
 else
  bif (decide ((List.length ([]:(List Int))+List.length a0)*1≤4398046511104)) then
   kf (([]:(List Int))++a0)
  else none
noncomputable def pO (N:Nat) (eO:(List QT)) (fY:Int):Nat→((List QT)→Option aa)→(List QT)→Int→Option aa
 |0,_,_,_=>none
 |lI+1,bj,bA,iJ=>
  bif (decide (iJ<fY)) then
   bif (aQ iJ (List.length eO)) then
    Jc N (List.getD eO (Int.toNat iJ) aj).2.2.2.2.2 (fun sq=>
     bif (decide ((List.length bA+List.length [((List.getD eO (Int.toNat iJ) aj).1,((List.getD eO (Int.toNat iJ) aj).2.1,((List.getD eO (Int.toNat iJ) aj).2.2.1,((List.getD eO (Int.toNat iJ) aj).2.2.2.1,((List.getD eO (Int.toNat iJ) aj).2.2.2.2.1,sq)))))])*6≤4398046511104)) then
      (pO N eO fY lI bj) (bA++[((List.getD eO (Int.toNat iJ) aj).1,((List.getD eO (Int.toNat iJ) aj).2.1,((List.getD eO (Int.toNat iJ) aj).2.2.1,((List.getD eO (Int.toNat iJ) aj).2.2.2.1,((List.getD eO (Int.toNat iJ) aj).2.2.2.2.1,sq)))))]) (IntKind.wrap .i64 (iJ+(1:Int)))
     else none)
   else none
  else
   bj bA
noncomputable def RK (N:Nat) (a0:(List QT)) (kf:(List QT)→Option aa):Option aa:=
 pO N a0 (List.length a0:Int) N kf ([]:(List QT)) (0:Int)
noncomputable def pP (N:Nat) (eO:(List QJ)) (fY:Int):Nat→((List QJ)→Option aa)→(List QJ)→Int→Option aa
 |0,_,_,_=>none
 |lI+1,bj,bA,iJ=>
  bif (decide (iJ<fY)) then
   bif (aQ iJ (List.length eO)) then
    Jc N (List.getD eO (Int.toNat iJ) cg).2.2 (fun sq=>
     bif (decide ((List.length bA+List.length [((List.getD eO (Int.toNat iJ) cg).1,((List.getD eO (Int.toNat iJ) cg).2.1,sq))])*3≤4398046511104)) then
      (pP N eO fY lI bj) (bA++[((List.getD eO (Int.toNat iJ) cg).1,((List.getD eO (Int.toNat iJ) cg).2.1,sq))]) (IntKind.wrap .i64 (iJ+(1:Int)))
     else none)
   else none
  else
   bj bA
noncomputable def aiv (N:Nat) (a0:(List QJ)) (kf:(List QJ)→Option aa):Option aa:=
 pP N a0 (List.length a0:Int) N kf ([]:(List QJ)) (0:Int)
noncomputable def aiw (N:Nat) (a0:(List bJ)) (kf:(List bJ)→Option aa):Option aa:=
 bif (List.isEmpty a0) then
  both (kf ([]:(List bJ))) (
   bif (decide ((List.length ([]:(List bJ))+List.length a0)*2≤4398046511104)) then
    kf (([]:(List bJ))++a0)
   else none)
 else
  bif (decide ((List.length ([]:(List bJ))+List.length a0)*2≤4398046511104)) then
   kf (([]:(List bJ))++a0)
  else none
noncomputable def aix (N:Nat) (a0:(List QB)) (kf:(List QB)→Option aa):Option aa:=
 bif (List.isEmpty a0) then
  both (kf ([]:(List QB))) (
   bif (decide ((List.length ([]:(List QB))+List.length a0)*3≤4398046511104)) then
    kf (([]:(List QB))++a0)
   else none)
 else
  bif (decide ((List.length ([]:(List QB))+List.length a0)*3≤4398046511104)) then
   kf (([]:(List QB))++a0)
  else none
noncomputable def YU (N:Nat) (a0:(List QL)) (kf:(List QL)→Option aa):Option aa:=
 bif (List.isEmpty a0) then
  both (kf ([]:(List QL))) (
   bif (decide ((List.length ([]:(List QL))+List.length a0)*4≤4398046511104)) then
    kf (([]:(List QL))++a0)
   else none)
 else
  bif (decide ((List.length ([]:(List QL))+List.length a0)*4≤4398046511104)) then
   kf (([]:(List QL))++a0)
  else none
noncomputable def H5 (N:Nat) (a0:QC) (kf:QC→Option aa):Option aa:=
 RK N a0.1 (fun ER=>
  aiv N a0.2.1 (fun acv=>
   aiw N a0.2.2.1 (fun acq=>
    Jc N a0.2.2.2.1 (fun Nx=>
     aix N a0.2.2.2.2.1 (fun aco=>
      YU N a0.2.2.2.2.2.1 (fun avb=>
       kf (ER,(acv,(acq,(Nx,(aco,(avb,a0.2.2.2.2.2.2))))))))))))
noncomputable def aiy (N:Nat) (a0:QT) (a1:Int) (kf:Bool→Option aa):Option aa:=
 kf (a0.1==a1)
noncomputable def pQ (N:Nat) (ae:(List QT)) (aA:Int) (sr:Int):Nat→(Option aa)→(Int→Option aa)→Int→Option aa
 |0,_,_,_=>none
 |lI+1,eZ,e7,fB=>
  bif (decide (fB<sr)) then
   bif (aQ fB (List.length ae)) then
    aiy N (List.getD ae (Int.toNat fB) aj) aA (fun kW=>
     bif kW then
      e7 fB
     else
      (pQ N ae aA sr lI eZ e7) (IntKind.wrap .i64 (fB+(1:Int))))
   else none
  else
   eZ
noncomputable def aqQ (N:Nat) (a0:(List QT)) (acw:Int) (kf:Int→Option aa):Option aa:=
 pQ N a0 acw (List.length a0:Int) N (kf (-1:Int)) kf (0:Int)
noncomputable def Ny (N:Nat) (a0:(List QT)) (a1:Int) (kf:Int→Option aa):Option aa:=
 aqQ N a0 a1 kf
noncomputable def Vs (N:Nat) (a0:QC) (kf:Bool→Option aa):Option aa:=
 kf (decide ((List.length a0.2.2.1:Int)>(0:Int)))
noncomputable def aiz (N:Nat) (a0:(List QT)) (a1:Int) (a2:(List QT)) (kf:(List QT)→Option aa):Option aa:=
 bif (decide ((0:Int)≤a1)&&(decide (a1≤(List.length a0:Int))&&(Nat.blt 0 (List.length a2)&&Nat.ble ((List.length a0+List.length a2)*Ty.size cX) 4398046511104))) then
  kf (List.take (Int.toNat a1) a0++a2++List.drop (Int.toNat a1) a0)
 else none
noncomputable def aqR (N:Nat) (a0:(List QL)) (kf:Int→Option aa):Option aa:=
 bif ((List.length a0:Int)==(0:Int)) then
  kf (0:Int)
 else
  bif (aQ (IntKind.wrap .i64 ((List.length a0:Int) - (1:Int))) (List.length a0)) then
   kf (List.getD a0 (Int.toNat (IntKind.wrap .i64 ((List.length a0:Int) - (1:Int)))) mZ).2.2.2
  else none
noncomputable def eP (N:Nat) (a0:Int) (a1:Int) (a2:Int) (kf:Bool→Option aa):Option aa:=
 bif (decide (a1≤a0)) then
  kf (decide (a0≤a2))
 else
  kf false
noncomputable def aiA (N:Nat) (a0:Int) (a1:Int) (kf:Int→Option aa):Option aa:=
 eP N a1 (1:Int) (1000000000000:Int) (fun EP=>
  bif (!EP) then
   kf (0:Int)
  else
   bif (!decide (a1=0)) then
    bif (decide ((Int.tmod a0 a1)<(0:Int))) then
     kf (IntKind.wrap .i64 ((Int.tmod a0 a1)+a1))
    else
     kf (Int.tmod a0 a1)
   else none)
noncomputable def aiB (N:Nat) (a0:Int) (a1:Int) (kf:Int→Option aa):Option aa:=
 aiA N a1 (2147483647:Int) (fun An=>
  kf (Int.tmod (IntKind.wrap .i64 ((IntKind.wrap .i64 ((IntKind.wrap .i64 (a0*(1000003:Int)))+An))+(13:Int))) (2147483647:Int)))
noncomputable def pR (N:Nat) (ja:(List Int)) (sr:Int):Nat→(Int→Option aa)→Int→Int→Option aa
 |0,_,_,_=>none
 |lI+1,bj,bA,fB=>
  bif (decide (fB<sr)) then
   bif (aQ fB (List.length ja)) then
    aiB N bA (List.getD ja (Int.toNat fB) (0:Int)) (fun acx=>
     (pR N ja sr lI bj) acx (IntKind.wrap .i64 (fB+(1:Int))))
   else none
  else
   bj bA
noncomputable def aiC (N:Nat) (a0:(List Int)) (kf:Int→Option aa):Option aa:=
 pR N a0 (List.length a0:Int) N kf (11:Int) (0:Int)
noncomputable def RL (N:Nat) (a0:Int) (a1:QL) (kf:Int→Option aa):Option aa:=
 aiC N [a0,a1.1,a1.2.1,a1.2.2.1] kf
noncomputable def vm (N:Nat) (pS:(List QL)) (kX:Int):Nat→(Option aa)→(Bool→Option aa)→Int→Int→Option aa
 |0,_,_,_,_=>none
 |lI+1,dA,iA,bA,ou=>
  bif (decide (ou<kX)) then
   bif (aQ ou (List.length pS)) then
    bif ((List.getD pS (Int.toNat ou) mZ).1 != (IntKind.wrap .i64 (ou+(1:Int)))) then
     iA false
    else
     eP N (List.getD pS (Int.toNat ou) mZ).2.1 (1:Int) (9:Int) (fun xB=>
      bif (!xB) then
       iA false
      else
       eP N (List.getD pS (Int.toNat ou) mZ).2.2.1 (0:Int) (99:Int) (fun Nz=>
        bif (!Nz) then
         iA false
        else
         RL N bA (List.getD pS (Int.toNat ou) mZ) (fun NA=>
          bif ((List.getD pS (Int.toNat ou) mZ).2.2.2 != NA) then
           iA false
          else
           (vm N pS kX lI dA iA) (List.getD pS (Int.toNat ou) mZ).2.2.2 (IntKind.wrap .i64 (ou+(1:Int))))))
   else none
  else
   dA
noncomputable def I75 (N:Nat) (a0:(List QL)) (kf:Bool→Option aa):Option aa:=
 bif (decide ((List.length a0:Int)>(200:Int))) then
  kf false
 else
  vm N a0 (List.length a0:Int) N (kf true) kf (0:Int) (0:Int)
noncomputable def aiD (N:Nat) (a0:(List QL)) (a1:Int) (a2:Int) (kf:(List QL)→Bool→Option aa):Option aa:=
 aqR N a0 (fun acy=>
  RL N acy ((IntKind.wrap .i64 ((List.length a0:Int)+(1:Int))),(a1,(a2,(0:Int)))) (fun xC=>
   YU N a0 (fun acz=>
    bif (decide ((List.length acz+List.length [((IntKind.wrap .i64 ((List.length a0:Int)+(1:Int))),(a1,(a2,xC)))])*4≤4398046511104)) then
     I75 N (acz++[((IntKind.wrap .i64 ((List.length a0:Int)+(1:Int))),(a1,(a2,xC)))]) (fun avc=>
      bif (!avc) then
       YU N a0 (fun avd=>
        kf avd false)
      else
       kf (acz++[((IntKind.wrap .i64 ((List.length a0:Int)+(1:Int))),(a1,(a2,xC)))]) true)
    else none)))
noncomputable def su (fj:Int) (fY:(List Int)) (iJ:Int):Nat→(Int→Option aa)→Int→Int→Option aa
 |0,_,_,_=>none
 |rD+1,bc,bX,eR=>
  bif (decide (eR<iJ)) then
   bif (aQ eR (List.length fY)) then
    bif ((List.getD fY (Int.toNat eR) (0:Int))==fj) then
     (su fj fY iJ rD bc) (IntKind.wrap .i64 (bX+(1:Int))) (IntKind.wrap .i64 (eR+(1:Int)))
    else
     (su fj fY iJ rD bc) bX (IntKind.wrap .i64 (eR+(1:Int)))
   else none
  else
   bc bX
noncomputable def I78 (N:Nat) (a0:(List Int)) (a1:Int) (kf:Int→Option aa):Option aa:=
 su a1 a0 (List.length a0:Int) N kf (0:Int) (0:Int)
noncomputable def hZ (N:Nat) (uy:(List QT)) (uz:QT) (Jd:(List QT)) (Je:Int) (Jf:Int) (gS:(List Int)) (acA:Int):Nat→(Option aa)→(Bool→Option aa)→Int→Option aa
 |0,_,_,_=>none
 |aqS+1,ov,ia,Ao=>
  bif (decide (Ao<acA)) then
   bif (aQ Ao (List.length gS)) then
    Ny N uy (List.getD gS (Int.toNat Ao) (0:Int)) (fun vn=>
     bif (decide (vn<(0:Int))) then
      ia false
     else
      bif ((List.getD gS (Int.toNat Ao) (0:Int))==uz.1) then
       ia false
      else
       bif (aQ vn (List.length uy)) then
        I78 N uz.2.2.2.2.2 (List.getD gS (Int.toNat Ao) (0:Int)) (fun RM=>
         I78 N (List.getD uy (Int.toNat vn) aj).2.2.2.2.2 uz.1 (fun Jg=>
          bif (RM != Jg) then
           ia false
          else
           (hZ N uy uz Jd Je Jf gS acA aqS ov ia) (IntKind.wrap .i64 (Ao+(1:Int)))))
       else none)
   else none
  else
   ov
noncomputable def Dm (N:Nat) (bD:Bool→Option aa) (aqT:Int→Option aa) (ae:(List QT)) (cF:(List QT)) (ES:Int) (eC:Int):Option aa:=
 hZ N ae (List.getD cF (Int.toNat eC) aj) cF ES eC (List.getD cF (Int.toNat eC) aj).2.2.2.2.2 (List.length (List.getD cF (Int.toNat eC) aj).2.2.2.2.2:Int) N (aqT (IntKind.wrap .i64 (eC+(1:Int)))) bD (0:Int)
noncomputable def ng (N:Nat) (ae:(List QT)) (cF:(List QT)) (ES:Int):Nat→(Option aa)→(Bool→Option aa)→Int→Option aa
 |0,_,_,_=>none
 |lI+1,pT,bD,eC=>
  bif (decide (eC<ES)) then
   bif (aQ eC (List.length cF)) then
    eP N (List.getD cF (Int.toNat eC) aj).1 (1:Int) (99:Int) (fun xB=>
     bif (!xB) then
      bD false
     else
      bif (decide (eC>(0:Int))) then
       bif (aQ (IntKind.wrap .i64 (eC - (1:Int))) (List.length ae)) then
        bif (decide ((List.getD cF (Int.toNat eC) aj).1≤(List.getD ae (Int.toNat (IntKind.wrap .i64 (eC - (1:Int)))) aj).1)) then
         bD false
        else
         eP N (List.getD cF (Int.toNat eC) aj).2.1 (1:Int) (99:Int) (fun acB=>
          bif (!acB) then
           bD false
          else
           bif (decide ((List.length (List.getD cF (Int.toNat eC) aj).2.2.2.2.2:Int)>(20:Int))) then
            bD false
           else
            eP N (List.getD cF (Int.toNat eC) aj).2.2.1 (0:Int) (List.length (List.getD cF (Int.toNat eC) aj).2.2.2.2.2:Int) (fun H6=>
             bif (!H6) then
              bD false
             else
              eP N (List.getD cF (Int.toNat eC) aj).2.2.2.2.1 (0:Int) (List.length (List.getD cF (Int.toNat eC) aj).2.2.2.2.2:Int) (fun acC=>
               bif (!acC) then
                bD false
               else
                eP N (List.getD cF (Int.toNat eC) aj).2.2.2.1 (0:Int) (100000:Int) (fun RN=>
                 bif (!RN) then
                  bD false
                 else
                  Dm N bD (ng N ae cF ES lI pT bD) ae cF ES eC))))
       else none
      else
       eP N (List.getD cF (Int.toNat eC) aj).2.1 (1:Int) (99:Int) (fun RO=>
        bif (!RO) then
         bD false
        else
         bif (decide ((List.length (List.getD cF (Int.toNat eC) aj).2.2.2.2.2:Int)>(20:Int))) then
          bD false
         else
          eP N (List.getD cF (Int.toNat eC) aj).2.2.1 (0:Int) (List.length (List.getD cF (Int.toNat eC) aj).2.2.2.2.2:Int) (fun RP=>
           bif (!RP) then
            bD false
           else
            eP N (List.getD cF (Int.toNat eC) aj).2.2.2.2.1 (0:Int) (List.length (List.getD cF (Int.toNat eC) aj).2.2.2.2.2:Int) (fun pU=>
             bif (!pU) then
              bD false
             else
              eP N (List.getD cF (Int.toNat eC) aj).2.2.2.1 (0:Int) (100000:Int) (fun RQ=>
               bif (!RQ) then
                bD false
               else
                Dm N bD (ng N ae cF ES lI pT bD) ae cF ES eC)))))
   else none
  else
   pT
noncomputable def Ap (N:Nat) (a0:(List QT)) (kf:Bool→Option aa):Option aa:=
 bif (decide ((List.length a0:Int)>(10:Int))) then
  kf false
 else
  ng N a0 a0 (List.length a0:Int) N (kf true) kf (0:Int)
noncomputable def mF (N:Nat) (NB:(List QJ)) (e8:QJ) (ET:(List QJ)) (EU:Int) (EV:Int) (gT:(List Int)) (RR:Int):Nat→(Option aa)→(Bool→Option aa)→Int→Option aa
 |0,_,_,_=>none
 |ave+1,pV,lJ,pW=>
  bif (decide (pW<RR)) then
   bif (aQ pW (List.length gT)) then
    eP N (List.getD gT (Int.toNat pW) (0:Int)) (1:Int) (99:Int) (fun RS=>
     bif (!RS) then
      lJ false
     else
      bif (decide (pW>(0:Int))) then
       bif (aQ (IntKind.wrap .i64 (pW - (1:Int))) (List.length e8.2.2)) then
        bif (decide ((List.getD gT (Int.toNat pW) (0:Int))≤(List.getD e8.2.2 (Int.toNat (IntKind.wrap .i64 (pW - (1:Int)))) (0:Int)))) then
         lJ false
        else
         (mF N NB e8 ET EU EV gT RR ave pV lJ) (IntKind.wrap .i64 (pW+(1:Int)))
       else none
      else
       (mF N NB e8 ET EU EV gT RR ave pV lJ) (IntKind.wrap .i64 (pW+(1:Int))))
   else none
  else
   pV
noncomputable def Jh (N:Nat) (dB:Bool→Option aa) (aqU:Int→Option aa) (ae:(List QJ)) (eD:(List QJ)) (bn:Int) (aV:Int):Option aa:=
 mF N ae (List.getD eD (Int.toNat aV) cg) eD bn aV (List.getD eD (Int.toNat aV) cg).2.2 (List.length (List.getD eD (Int.toNat aV) cg).2.2:Int) N (aqU (IntKind.wrap .i64 (aV+(1:Int)))) dB (0:Int)
noncomputable def sv (N:Nat) (ae:(List QJ)) (eD:(List QJ)) (bn:Int):Nat→(Option aa)→(Bool→Option aa)→Int→Option aa
 |0,_,_,_=>none
 |lI+1,pX,dB,aV=>
  bif (decide (aV<bn)) then
   bif (aQ aV (List.length eD)) then
    eP N (List.getD eD (Int.toNat aV) cg).1 (1:Int) (99:Int) (fun acD=>
     bif (!acD) then
      dB false
     else
      bif (decide (aV>(0:Int))) then
       bif (aQ (IntKind.wrap .i64 (aV - (1:Int))) (List.length ae)) then
        bif (decide ((List.getD eD (Int.toNat aV) cg).1≤(List.getD ae (Int.toNat (IntKind.wrap .i64 (aV - (1:Int)))) cg).1)) then
         dB false
        else
         eP N (List.getD eD (Int.toNat aV) cg).2.1 (1:Int) (99:Int) (fun acE=>
          bif (!acE) then
           dB false
          else
           Jh N dB (sv N ae eD bn lI pX dB) ae eD bn aV)
       else none
      else
       eP N (List.getD eD (Int.toNat aV) cg).2.1 (1:Int) (99:Int) (fun sw=>
        bif (!sw) then
         dB false
        else
         Jh N dB (sv N ae eD bn lI pX dB) ae eD bn aV))
   else none
  else
   pX
noncomputable def I79 (N:Nat) (a0:(List QJ)) (kf:Bool→Option aa):Option aa:=
 bif (decide ((List.length a0:Int)>(10:Int))) then
  kf false
 else
  sv N a0 a0 (List.length a0:Int) N (kf true) kf (0:Int)
noncomputable def pY (ae:(List Int)) (aA:Int) (sr:Int):Nat→(Option aa)→(Int→Option aa)→Int→Option aa
 |0,_,_,_=>none
 |lI+1,Aq,Ar,fB=>
  bif (decide (fB<sr)) then
   bif (aQ fB (List.length ae)) then
    bif (aA==(List.getD ae (Int.toNat fB) (0:Int))) then
     Ar fB
    else
     (pY ae aA sr lI Aq Ar) (IntKind.wrap .i64 (fB+(1:Int)))
   else none
  else
   Aq
noncomputable def RT (N:Nat) (a0:(List Int)) (a1:Int) (kf:Int→Option aa):Option aa:=
 pY a0 a1 (List.length a0:Int) N (kf (-1:Int)) kf (0:Int)
noncomputable def S82 (N:Nat) (a0:(List Int)) (a1:Int) (kf:Bool→Option aa):Option aa:=
 RT N a0 a1 (fun EP=>
  kf (decide (EP≥(0:Int))))
noncomputable def I19 (N:Nat) (a0:(List QT)) (a1:Int) (a2:Int) (kf:Bool→Option aa):Option aa:=
 Ny N a0 a1 (fun dO=>
  bif (decide (dO≥(0:Int))) then
   bif (aQ dO (List.length a0)) then
    S82 N (List.getD a0 (Int.toNat dO) aj).2.2.2.2.2 a2 kf
   else none
  else
   kf false)
noncomputable def I77 (N:Nat) (a0:(List QT)) (a1:Int) (a2:Int) (kf:Bool→Option aa):Option aa:=
 Ny N a0 a1 (fun cu=>
  Ny N a0 a2 (fun cG=>
   Ap N a0 (fun q8=>
    bif q8 then
     bif (decide (cu≥(0:Int))) then
      bif (decide (cG≥(0:Int))) then
       bif (cu != cG) then
        bif (aQ cu (List.length a0)) then
         bif (aQ cG (List.length a0)) then
          bif ((List.getD a0 (Int.toNat cu) aj).2.1 != (List.getD a0 (Int.toNat cG) aj).2.1) then
           I19 N a0 a1 a2 (fun acF=>
            kf (!acF))
          else
           kf false
         else none
        else none
       else
        kf false
      else
       kf false
     else
      kf false
    else
     kf false)))
noncomputable def pZ (N:Nat) (H7:(List Int)) (jA:(List QT)) (acG:Int):Nat→(Option aa)→(Bool→Option aa)→Int→Option aa
 |0,_,_,_=>none
 |awV+1,oy,oz,Ji=>
  bif (decide (Ji<acG)) then
   bif (aQ Ji (List.length jA)) then
    I78 N H7 (List.getD jA (Int.toNat Ji) aj).1 (fun RU=>
     bif (RU != (1:Int)) then
      oz false
     else
      (pZ N H7 jA acG awV oy oz) (IntKind.wrap .i64 (Ji+(1:Int))))
   else none
  else
   oy
noncomputable def vo (N:Nat) (ae:(List QT)) (bn:(List bJ)) (aV:Int):Nat→((List Int)→Option aa)→(Bool→Option aa)→(List Int)→Int→Option aa
 |0,_,_,_,_=>none
 |rD+1,bc,fC,bX,cj=>
  bif (decide (cj<aV)) then
   bif (aQ cj (List.length bn)) then
    I77 N ae (List.getD bn (Int.toNat cj) dm).1 (List.getD bn (Int.toNat cj) dm).2 (fun kY=>
     bif (!kY) then
      fC false
     else
      bif (decide ((List.length bX+List.length [(List.getD bn (Int.toNat cj) dm).1,(List.getD bn (Int.toNat cj) dm).2])*1≤4398046511104)) then
       (vo N ae bn aV rD bc fC) (bX++[(List.getD bn (Int.toNat cj) dm).1,(List.getD bn (Int.toNat cj) dm).2]) (IntKind.wrap .i64 (cj+(1:Int)))
      else none)
   else none
  else
   bc bX
noncomputable def I17 (N:Nat) (a0:(List QT)) (a1:(List bJ)) (kf:Bool→Option aa):Option aa:=
 vo N a0 a1 (List.length a1:Int) N (fun avf=>
  pZ N avf a0 (List.length a0:Int) N (kf true) kf (0:Int)) kf ([]:(List Int)) (0:Int)
noncomputable def I81 (N:Nat) (a0:QJ) (a1:Int) (kf:Bool→Option aa):Option aa:=
 kf (a0.1==a1)
noncomputable def vp (N:Nat) (ae:(List QJ)) (aA:Int) (sr:Int):Nat→(Option aa)→(Int→Option aa)→Int→Option aa
 |0,_,_,_=>none
 |lI+1,eZ,e7,fB=>
  bif (decide (fB<sr)) then
   bif (aQ fB (List.length ae)) then
    I81 N (List.getD ae (Int.toNat fB) cg) aA (fun kW=>
     bif kW then
      e7 fB
     else
      (vp N ae aA sr lI eZ e7) (IntKind.wrap .i64 (fB+(1:Int))))
   else none
  else
   eZ
noncomputable def S80 (N:Nat) (a0:(List QJ)) (acw:Int) (kf:Int→Option aa):Option aa:=
 vp N a0 acw (List.length a0:Int) N (kf (-1:Int)) kf (0:Int)
noncomputable def vq (N:Nat) (ae:(List QT)) (As:QJ) (mG:(List Int)) (ao0:Int):Nat→(Option aa)→(Bool→Option aa)→Int→Option aa
 |0,_,_,_=>none
 |rD+1,sx,kF,ib=>
  bif (decide (ib<ao0)) then
   bif (aQ ib (List.length mG)) then
    Ny N ae (List.getD mG (Int.toNat ib) (0:Int)) (fun kY=>
     bif (decide (kY<(0:Int))) then
      kF false
     else
      bif (aQ kY (List.length ae)) then
       bif ((List.getD ae (Int.toNat kY) aj).2.1==As.2.1) then
        kF false
       else
        S82 N As.2.2 (List.getD mG (Int.toNat ib) (0:Int)) (fun sw=>
         bif sw then
          kF false
         else
          (vq N ae As mG ao0 rD sx kF) (IntKind.wrap .i64 (ib+(1:Int))))
      else none)
   else none
  else
   sx
noncomputable def I83 (N:Nat) (a0:(List QT)) (a1:QJ) (a2:bJ) (kf:Bool→Option aa):Option aa:=
 vq N a0 a1 [a2.1,a2.2] (List.length [a2.1,a2.2]:Int) N (kf true) kf (0:Int)
noncomputable def vt (N:Nat) (Au:(List QT)) (jU:(List QJ)) (km:(List bJ)) (jc:(List Int)) (mH:(List Int)) (ao1:Int):Nat→(Option aa)→(Bool→Option aa)→Int→Option aa
 |0,_,_,_=>none
 |n_9+1,tu,kG,uA=>
  bif (decide (uA<ao1)) then
   bif (aQ uA (List.length mH)) then
    S80 N jU (List.getD mH (Int.toNat uA) (0:Int)) (fun vu=>
     bif (decide (vu<(0:Int))) then
      kG false
     else
      bif (decide ((0:Int)≤(0:Int))&&decide ((0:Int)≤uA)&&decide (uA≤(List.length jc:Int))) then
       S82 N (List.drop (Int.toNat (0:Int)) (List.take (Int.toNat uA) jc)) (List.getD mH (Int.toNat uA) (0:Int)) (fun RV=>
        bif RV then
         kG false
        else
         bif (aQ vu (List.length jU)) then
          bif (aQ uA (List.length km)) then
           I83 N Au (List.getD jU (Int.toNat vu) cg) (List.getD km (Int.toNat uA) dm) (fun RW=>
            bif (!RW) then
             kG false
            else
             (vt N Au jU km jc mH ao1 n_9 tu kG) (IntKind.wrap .i64 (uA+(1:Int))))
          else none
         else none)
      else none)
   else none
  else
   tu
noncomputable def I18 (N:Nat) (a0:(List QT)) (a1:(List QJ)) (a2:(List bJ)) (a3:(List Int)) (kf:Bool→Option aa):Option aa:=
 I79 N a1 (fun eB=>
  bif (!eB) then
   kf false
  else
   bif ((List.length a3:Int) != (List.length a2:Int)) then
    kf false
   else
    vt N a0 a1 a2 a3 a3 (List.length a3:Int) N (kf true) kf (0:Int))
noncomputable def NC (N:Nat) (a0:QB) (kf:Bool→Option aa):Option aa:=
 eP N a0.1 (1:Int) (99:Int) (fun ER=>
  bif ER then
   eP N a0.2.1 (0:Int) (100:Int) (fun aqV=>
    bif aqV then
     eP N a0.2.2 (0:Int) (100:Int) (fun ND=>
      bif ND then
       kf (a0.2.1 != a0.2.2)
      else
       kf false)
    else
     kf false)
  else
   kf false)
noncomputable def p4 (kX:(List QT)) (ou:Int):Nat→(Int→Option aa)→Int→Int→Option aa
 |0,_,_,_=>none
 |rD+1,Aw,ai,Vt=>
  bif (decide (Vt<ou)) then
   bif (aQ Vt (List.length kX)) then
    (p4 kX ou rD Aw) (IntKind.wrap .i64 (ai+(List.getD kX (Int.toNat Vt) aj).2.2.1)) (IntKind.wrap .i64 (Vt+(1:Int)))
   else none
  else
   Aw ai
noncomputable def aiE (N:Nat) (a0:(List QT)) (kf:Int→Option aa):Option aa:=
 Ap N a0 (fun EP=>
  bif (!EP) then
   kf (0:Int)
  else
   p4 a0 (List.length a0:Int) N kf (0:Int) (0:Int))
noncomputable def sy (N:Nat) (iK:QC) (jB:(List QB)) (acH:Int):Nat→(Option aa)→(Bool→Option aa)→Int→Option aa
 |0,_,_,_=>none
 |RX+1,p5,lK,mI=>
  bif (decide (mI<acH)) then
   bif (aQ mI (List.length jB)) then
    bif (!((decide (((List.getD jB (Int.toNat mI) gQ).1:Int)=(0:Int)))&&((decide (((List.getD jB (Int.toNat mI) gQ).2.1:Int)=(0:Int)))&&(decide (((List.getD jB (Int.toNat mI) gQ).2.2:Int)=(0:Int)))))) then
     NC N (List.getD jB (Int.toNat mI) gQ) (fun RY=>
      bif (!RY) then
       lK false
      else
       bif (aQ mI (List.length iK.2.2.2.1)) then
        bif ((List.getD jB (Int.toNat mI) gQ).1 != (List.getD iK.2.2.2.1 (Int.toNat mI) (0:Int))) then
         lK false
        else
         (sy N iK jB acH RX p5 lK) (IntKind.wrap .i64 (mI+(1:Int)))
       else none)
    else
     (sy N iK jB acH RX p5 lK) (IntKind.wrap .i64 (mI+(1:Int)))
   else none
  else
   p5
noncomputable def Jj (N:Nat) (a0:QC) (kf:Bool→Option aa):Option aa:=
 sy N a0 a0.2.2.2.2.1 (List.length a0.2.2.2.2.1:Int) N (
  eP N a0.2.2.2.2.2.2 (0:Int) (1000:Int) (fun aqW=>
   bif aqW then
    aiE N a0.1 (fun vw=>
     kf (vw==a0.2.2.2.2.2.2))
   else
    kf false)) kf (0:Int)
noncomputable def I39 (N:Nat) (a0:QC) (kf:Bool→Option aa):Option aa:=
 Ap N a0.1 (fun EP=>
  bif (!EP) then
   kf false
  else
   I79 N a0.2.1 (fun NF=>
    bif (!NF) then
     kf false
    else
     I75 N a0.2.2.2.2.2.1 (fun EW=>
      bif (!EW) then
       kf false
      else
       bif ((List.length a0.2.2.2.1:Int) != (List.length a0.2.2.1:Int)) then
        kf false
       else
        bif ((List.length a0.2.2.2.2.1:Int) != (List.length a0.2.2.1:Int)) then
         kf false
        else
         Vs N a0 (fun avg=>
          bif avg then
           I17 N a0.1 a0.2.2.1 (fun avh=>
            bif (!avh) then
             kf false
            else
             I18 N a0.1 a0.2.1 a0.2.2.1 a0.2.2.2.1 (fun avi=>
              bif (!avi) then
               kf false
              else
               Jj N a0 kf))
          else
           Jj N a0 kf))))
noncomputable def Jk (N:Nat) (a0:QC) (a1:QC) (a2:Int) (a3:Int) (kf:QC→Bool→Option aa):Option aa:=
 aiD N a1.2.2.2.2.2.1 a2 a3 (fun ao2 oA=>
  bif (!oA) then
   H5 N a0 (fun acI=>
    kf acI false)
  else
   I39 N a0 (fun aD=>
    bif (!aD) then
     H5 N a0 (fun acI=>
      kf acI false)
    else
     I39 N (a1.1,(a1.2.1,(a1.2.2.1,(a1.2.2.2.1,(a1.2.2.2.2.1,(ao2,a1.2.2.2.2.2.2)))))) (fun avj=>
      bif (!avj) then
       H5 N a0 (fun NG=>
        kf NG false)
      else
       kf (a1.1,(a1.2.1,(a1.2.2.1,(a1.2.2.2.1,(a1.2.2.2.2.1,(ao2,a1.2.2.2.2.2.2)))))) true)))
noncomputable def sz (YV:Int) (aiF:Int) (aiG:QC) (lL:QC) (xD:QC):Nat→(Int→Option aa)→Int→Option aa
 |0,_,_=>none
 |NH+1,nh,YW=>
  bif (decide (YW<(List.length xD.1:Int))) then
   bif (aQ YW (List.length xD.1)) then
    bif (decide ((List.getD xD.1 (Int.toNat YW) aj).1<YV)) then
     (sz YV aiF aiG lL xD NH nh) (IntKind.wrap .i64 (YW+(1:Int)))
    else
     nh YW
   else none
  else
   nh YW
noncomputable def I30 (N:Nat) (a0:QC) (a1:Int) (a2:Int) (kf:QC→Bool→Option aa):Option aa:=
 H5 N a0 (fun cu=>
  Ny N a0.1 a1 (fun NI=>
   bif (decide (NI≥(0:Int))) then
    kf cu false
   else
    Vs N a0 (fun NJ=>
     bif NJ then
      kf cu false
     else
      sz a1 a2 a0 (([]:(List QT)),(([]:(List QJ)),(([]:(List bJ)),(([]:(List Int)),(([]:(List QB)),(([]:(List QL)),(0:Int))))))) cu N (fun avk=>
       aiz N cu.1 avk [(a1,(a2,((0:Int),((0:Int),((0:Int),([]:(List Int)))))))] (fun aqX=>
        Jk N a0 (aqX,cu.2) (1:Int) a1 kf)) (0:Int))))
noncomputable def aiH (N:Nat) (a0:QJ) (a1:Int) (kf:Bool→Option aa):Option aa:=
 kf (a0.1==a1)
noncomputable def p6 (N:Nat) (ae:(List QJ)) (aA:Int) (sr:Int):Nat→(Option aa)→(Int→Option aa)→Int→Option aa
 |0,_,_,_=>none
 |lI+1,eZ,e7,fB=>
  bif (decide (fB<sr)) then
   bif (aQ fB (List.length ae)) then
    aiH N (List.getD ae (Int.toNat fB) cg) aA (fun kW=>
     bif kW then
      e7 fB
     else
      (p6 N ae aA sr lI eZ e7) (IntKind.wrap .i64 (fB+(1:Int))))
   else none
  else
   eZ
noncomputable def aqY (N:Nat) (a0:(List QJ)) (acw:Int) (kf:Int→Option aa):Option aa:=
 p6 N a0 acw (List.length a0:Int) N (kf (-1:Int)) kf (0:Int)
noncomputable def RZ (N:Nat) (a0:(List QJ)) (a1:Int) (kf:Int→Option aa):Option aa:=
 aqY N a0 a1 kf
noncomputable def aiI (N:Nat) (a0:(List QJ)) (a1:Int) (a2:(List QJ)) (kf:(List QJ)→Option aa):Option aa:=
 bif (decide ((0:Int)≤a1)&&(decide (a1≤(List.length a0:Int))&&(Nat.blt 0 (List.length a2)&&Nat.ble ((List.length a0+List.length a2)*Ty.size jT) 4398046511104))) then
  kf (List.take (Int.toNat a1) a0++a2++List.drop (Int.toNat a1) a0)
 else none
noncomputable def sA (jU:Int) (km:Int) (jc:QC) (aiJ:QC) (xE:QC):Nat→(Int→Option aa)→Int→Option aa
 |0,_,_=>none
 |n_9+1,ck,YX=>
  bif (decide (YX<(List.length xE.2.1:Int))) then
   bif (aQ YX (List.length xE.2.1)) then
    bif (decide ((List.getD xE.2.1 (Int.toNat YX) cg).1<jU)) then
     (sA jU km jc aiJ xE n_9 ck) (IntKind.wrap .i64 (YX+(1:Int)))
    else
     ck YX
   else none
  else
   ck YX
noncomputable def I32 (N:Nat) (a0:QC) (a1:Int) (a2:Int) (kf:QC→Bool→Option aa):Option aa:=
 H5 N a0 (fun cu=>
  RZ N a0.2.1 a1 (fun NI=>
   bif (decide (NI≥(0:Int))) then
    kf cu false
   else
    sA a1 a2 a0 (([]:(List QT)),(([]:(List QJ)),(([]:(List bJ)),(([]:(List Int)),(([]:(List QB)),(([]:(List QL)),(0:Int))))))) cu N (fun avl=>
     aiI N cu.2.1 avl [(a1,(a2,([]:(List Int))))] (fun aqZ=>
      Jk N a0 (cu.1,(aqZ,cu.2.2)) (2:Int) a1 kf)) (0:Int)))
noncomputable def aiK (N:Nat) (a0:(List QT)) (kf:(List QT)→Option aa):Option aa:=
 bif (List.isEmpty a0) then
  both (kf ([]:(List QT))) (
   bif (decide ((List.length ([]:(List QT))+List.length a0)*6≤4398046511104)) then
    kf (([]:(List QT))++a0)
   else none)
 else
  bif (decide ((List.length ([]:(List QT))+List.length a0)*6≤4398046511104)) then
   kf (([]:(List QT))++a0)
  else none
noncomputable def Jl (kf:Int→Option aa) (avm:Int) (awW:Int):Option aa:=
 bif (aQ (IntKind.wrap .u8 avm) (ByteArray.size aL)) then
  kf (IntKind.wrap .i64 (awW+(IntKind.wrap .i64 (bt aL (IntKind.wrap .u8 avm)))))
 else none
noncomputable def Jm (kf:Int→Option aa) (aq0:Int) (avn:Int):Option aa:=
 bif (decide (aq0≥(256:Int))) then
  bif (decide (0≤(8:Int))) then
   Jl kf (Int.fdiv aq0 (2^(min (Int.toNat (8:Int)) (IntKind.bits .u64)))) (IntKind.wrap .i64 (avn+(8:Int)))
  else none
 else
  Jl kf aq0 avn
noncomputable def Jn (kf:Int→Option aa) (aq1:Int) (avo:Int):Option aa:=
 bif (decide (aq1≥(65536:Int))) then
  bif (decide (0≤(16:Int))) then
   Jm kf (Int.fdiv aq1 (2^(min (Int.toNat (16:Int)) (IntKind.bits .u64)))) (IntKind.wrap .i64 (avo+(16:Int)))
  else none
 else
  Jm kf aq1 avo
noncomputable def aq2 (N:Nat) (a0:Int) (kf:Int→Option aa):Option aa:=
 bif (decide (a0≥(4294967296:Int))) then
  bif (decide (0≤(32:Int))) then
   Jn kf (Int.fdiv a0 (2^(min (Int.toNat (32:Int)) (IntKind.bits .u64)))) (32:Int)
  else none
 else
  Jn kf a0 (0:Int)
noncomputable def aiL (N:Nat) (a0:Int) (kf:Int→Option aa):Option aa:=
 aq2 N a0 kf
noncomputable def aiM (N:Nat) (a0:Int) (kf:Bool→Option aa):Option aa:=
 kf (a0 != a0)
noncomputable def YY (N:Nat) (a0:Int) (a1:Int) (kf:Int→Option aa):Option aa:=
 aiM N a0 (fun An=>
  aiM N a1 (fun ao3=>
   bif An then
    bif ao3 then
     kf (0:Int)
    else
     kf (-1:Int)
   else
    bif ao3 then
     kf (1:Int)
    else
     bif (decide (a0<a1)) then
      kf (-1:Int)
     else
      bif (decide (a0>a1)) then
       kf (1:Int)
      else
       kf (0:Int)))
noncomputable def p7 (bA:Int) (ja:(List Int)) (sr:Int):Nat→(Option aa)→(Int→Option aa)→Int→Option aa
 |0,_,_,_=>none
 |lI+1,ee,Ax,fB=>
  bif (decide (fB<sr)) then
   bif (aQ fB (List.length ja)) then
    bif ((List.getD ja (Int.toNat fB) (0:Int)) != bA) then
     Ax (List.getD ja (Int.toNat fB) (0:Int))
    else
     (p7 bA ja sr lI ee Ax) (IntKind.wrap .i64 (fB+(1:Int)))
   else none
  else
   ee
noncomputable def aiN (N:Nat) (a0:(List Int)) (kf:Int→Option aa):Option aa:=
 p7 (0:Int) a0 (List.length a0:Int) N (kf (0:Int)) kf (0:Int)
noncomputable def aiO (N:Nat) (a0:QT) (a1:QT) (kf:Int→Option aa):Option aa:=
 YY N a1.2.2.1 a0.2.2.1 (fun iI=>
  YY N a1.2.2.2.1 a0.2.2.2.1 (fun cG=>
   YY N a0.1 a1.1 (fun NJ=>
    aiN N [iI,cG,NJ] kf)))
noncomputable def tx (N:Nat) (iK:Int) (YZ:Int) (Jo:Int):Nat→((List QT)→Option aa)→(List QT)→Int→Option aa
 |0,_,_,_=>none
 |RX+1,Jp,dZ,ni=>
  bif (decide (ni>iK)) then
   bif (aQ ni (List.length dZ)) then
    bif (aQ (IntKind.wrap .i64 (ni - (1:Int))) (List.length dZ)) then
     aiO N (List.getD dZ (Int.toNat ni) aj) (List.getD dZ (Int.toNat (IntKind.wrap .i64 (ni - (1:Int)))) aj) (fun aq3=>
      bif (decide (aq3<(0:Int))) then
       bif (aQ (IntKind.wrap .i64 (ni - (1:Int))) (List.length dZ)) then
        bif (aQ ni (List.length dZ)) then
         bif (aQ ni (List.length dZ)) then
          share (List.set dZ (Int.toNat ni) (List.getD dZ (Int.toNat (IntKind.wrap .i64 (ni - (1:Int)))) aj)) (fun ao4=>
           bif (aQ (IntKind.wrap .i64 (ni - (1:Int))) (List.length ao4)) then
            share (List.set ao4 (Int.toNat (IntKind.wrap .i64 (ni - (1:Int)))) (List.getD dZ (Int.toNat ni) aj)) (fun avp=>
             (tx N iK YZ Jo RX Jp) avp (IntKind.wrap .i64 (ni - (1:Int))))
           else none)
         else none
        else none
       else none
      else
       Jp dZ)
    else none
   else none
  else
   Jp dZ
noncomputable def p8 (N:Nat) (aA:Int) (fN:Int):Nat→((List QT)→Option aa)→(List QT)→Int→Option aa
 |0,_,_,_=>none
 |lI+1,Vu,ae,fB=>
  bif (decide (fB<fN)) then
   tx N aA fN fB N (fun avq=>
    (p8 N aA fN lI Vu) avq (IntKind.wrap .i64 (fB+(1:Int)))) ae fB
  else
   Vu ae
noncomputable def aq4 (N:Nat) (a0:(List QT)) (a1:Int) (a2:Int) (kf:(List QT)→Option aa):Option aa:=
 p8 N a1 a2 N kf a0 (IntKind.wrap .i64 (a1+(1:Int)))
noncomputable def Jq (N:Nat) (ae:(List QT)) (aA:Int) (fN:Int) (cv:Int) (eR:Bool) (axi:Bool):Nat→((List QT)→Option aa)→Option aa
 |0,_=>none
 |R0+1,sx=>
  bif (decide ((IntKind.wrap .i64 (fN - aA))≤(12:Int))) then
   aq4 N ae aA fN sx
  else
   bif (cv==(0:Int)) then
    none
   else
    bif (!eR) then
     none
    else none
noncomputable def aiP (N:Nat) (a0:(List QT)) (a1:Int) (a2:Int) (a3:Int) (kf:(List QT)→Option aa):Option aa:=
 Jq N a0 a1 a2 a3 true true N kf
noncomputable def aiQ (N:Nat) (a0:(List QT)) (kf:(List QT)→Option aa):Option aa:=
 aiL N (IntKind.wrap .u64 (List.length a0:Int)) (fun cu=>
  aiP N a0 (0:Int) (List.length a0:Int) cu kf)
noncomputable def p9 (ib:(List QT)) (ao5:Int):Nat→((List Int)→Option aa)→(List Int)→Int→Option aa
 |0,_,_,_=>none
 |n_8+1,Ay,cv,NK=>
  bif (decide (NK<ao5)) then
   bif (aQ NK (List.length ib)) then
    bif (decide ((List.length cv+List.length [(List.getD ib (Int.toNat NK) aj).1])*1≤4398046511104)) then
     (p9 ib ao5 n_8 Ay) (cv++[(List.getD ib (Int.toNat NK) aj).1]) (IntKind.wrap .i64 (NK+(1:Int)))
    else none
   else none
  else
   Ay cv
noncomputable def acJ (N:Nat) (a0:(List QT)) (kf:(List Int)→Option aa):Option aa:=
 Ap N a0 (fun iI=>
  bif (!iI) then
   kf ([]:(List Int))
  else
   aiK N a0 (fun gg=>
    aiQ N gg (fun avr=>
     p9 avr (List.length avr:Int) N kf ([]:(List Int)) (0:Int))))
noncomputable def aq5 (N:Nat) (a0:(List Int)) (a1:Int) (kf:(List Int)→Option aa):Option aa:=
 bif (List.isEmpty a0&&(decide ((0:Int)≤a1)&&decide (a1≤(549755813888:Int)))) then
  kf ([]:List Int)
 else none
noncomputable def kZ (iL:(List (List Int))) (acK:Int):Nat→((List Int)→Option aa)→(List Int)→Int→Option aa
 |0,_,_,_=>none
 |awX+1,oD,lA,EX=>
  bif (decide (EX<acK)) then
   bif (aQ EX (List.length iL)) then
    bif (decide ((List.length lA+List.length (List.getD iL (Int.toNat EX) ([]:(List Int))))*1≤4398046511104)) then
     (kZ iL acK awX oD) (lA++(List.getD iL (Int.toNat EX) ([]:(List Int)))) (IntKind.wrap .i64 (EX+(1:Int)))
    else none
   else none
  else
   oD lA
noncomputable def qa (ae:(List (List Int))) (e9:(List (List Int))) (cH:Int):Nat→(Int→Option aa)→Int→Int→Option aa
 |0,_,_,_=>none
 |rD+1,bj,ai,lB=>
  bif (decide (lB<cH)) then
   bif (aQ lB (List.length e9)) then
    bif (decide ((IntKind.wrap .i64 (ai+(List.length (List.getD e9 (Int.toNat lB) ([]:(List Int))):Int)))<(0:Int))) then
     none
    else
     (qa ae e9 cH rD bj) (IntKind.wrap .i64 (ai+(List.length (List.getD e9 (Int.toNat lB) ([]:(List Int))):Int))) (IntKind.wrap .i64 (lB+(1:Int)))
   else none
  else
   bj ai
noncomputable def aiR (N:Nat) (a0:(List (List Int))) (kf:(List Int)→Option aa):Option aa:=
 qa a0 a0 (List.length a0:Int) N (fun awY=>
  aq5 N ([]:(List Int)) awY (fun aq6=>
   kZ a0 (List.length a0:Int) N kf aq6 (0:Int))) (0:Int) (0:Int)
noncomputable def aiS (N:Nat) (a0:(List QT)) (a1:Int) (a2:Int) (kf:bJ→Option aa):Option aa:=
 Ny N a0 a1 (fun EY=>
  Ny N a0 a2 (fun EZ=>
   Ap N a0 (fun NJ=>
    bif (!NJ) then
     kf ((0:Int),(0:Int))
    else
     bif (decide (EY<(0:Int))) then
      kf ((0:Int),(0:Int))
     else
      bif (decide (EZ<(0:Int))) then
       kf ((0:Int),(0:Int))
      else
       bif (EY==EZ) then
        kf ((0:Int),(0:Int))
       else
        bif (aQ EY (List.length a0)) then
         bif (aQ EZ (List.length a0)) then
          acJ N a0 (fun ao6=>
           bif (decide ((List.getD a0 (Int.toNat EY) aj).2.2.2.2.1<(List.getD a0 (Int.toNat EZ) aj).2.2.2.2.1)) then
            kf (a1,a2)
           else
            bif ((List.getD a0 (Int.toNat EY) aj).2.2.2.2.1==(List.getD a0 (Int.toNat EZ) aj).2.2.2.2.1) then
             RT N ao6 a1 (fun avs=>
              RT N ao6 a2 (fun avt=>
               bif (decide (avs<avt)) then
                kf (a1,a2)
               else
                kf (a2,a1)))
            else
             kf (a2,a1))
         else none
        else none)))
noncomputable def qb (N:Nat) (self:(List QT)→(List Int)→((List bJ)→Bool→Option aa)→Option aa) (ae:(List QT)) (aA:(List Int)):Nat→(Option aa)→((List bJ)→Bool→Option aa)→Int→Option aa
 |0,_,_,_=>none
 |ug+1,Jr,Js,dv=>
  bif (decide (dv<(List.length aA:Int))) then
   bif (aQ (0:Int) (List.length aA)) then
    bif (aQ dv (List.length aA)) then
     I77 N ae (List.getD aA (Int.toNat (0:Int)) (0:Int)) (List.getD aA (Int.toNat dv) (0:Int)) (fun avu=>
      bif (!avu) then
       (qb N self ae aA ug Jr Js) (IntKind.wrap .i64 (dv+(1:Int)))
      else
       bif (decide ((0:Int)≤(1:Int))&&decide ((1:Int)≤dv)&&decide (dv≤(List.length aA:Int))) then
        bif (decide ((0:Int)≤(IntKind.wrap .i64 (dv+(1:Int))))&&decide ((IntKind.wrap .i64 (dv+(1:Int)))≤(List.length aA:Int))&&decide ((List.length aA:Int)≤(List.length aA:Int))) then
         aiR N [(List.drop (Int.toNat (1:Int)) (List.take (Int.toNat dv) aA)),(List.drop (Int.toNat (IntKind.wrap .i64 (dv+(1:Int)))) (List.take (Int.toNat (List.length aA:Int)) aA))] (fun avv=>
          self ae avv (fun ao7 avw=>
           bif avw then
            bif (aQ (0:Int) (List.length aA)) then
             bif (aQ dv (List.length aA)) then
              aiS N ae (List.getD aA (Int.toNat (0:Int)) (0:Int)) (List.getD aA (Int.toNat dv) (0:Int)) (fun ao8=>
               bif (decide ((List.length [ao8]+List.length ao7)*2≤4398046511104)) then
                Js ([ao8]++ao7) true
               else none)
             else none
            else none
           else
            (qb N self ae aA ug Jr Js) (IntKind.wrap .i64 (dv+(1:Int)))))
        else none
       else none)
    else none
   else none
  else
   Jr
noncomputable def R1 (self:(List QT)→(List Int)→((List bJ)→Bool→Option aa)→Option aa) (N:Nat) (a0:(List QT)) (a1:(List Int)) (kf:(List bJ)→Bool→Option aa):Option aa:=
 bif ((List.length a1:Int)==(0:Int)) then
  kf ([]:(List bJ)) true
 else
  qb N self a0 a1 N (kf ([]:(List bJ)) false) kf (1:Int)
noncomputable def R2:Nat→(List QT)→(List Int)→((List bJ)→Bool→Option aa)→Option aa
 |0,_,_,_=>none
 |N+1,a0,a1,kf=>R1 (R2 N) N a0 a1 kf
noncomputable def aiT (N:Nat) (a0:(List QT)) (kf:(List bJ)→Bool→Option aa):Option aa:=
 Ap N a0 (fun ER=>
  bif (!ER) then
   kf ([]:(List bJ)) false
  else
   bif ((Int.tmod (List.length a0:Int) (2:Int))==(1:Int)) then
    kf ([]:(List bJ)) false
   else
    acJ N a0 (fun oA=>
     R2 N a0 oA kf))
noncomputable def nj (N:Nat) (self:(List QT)→(List QJ)→(List bJ)→(List Int)→((List Int)→Bool→Option aa)→Option aa) (ae:(List QT)) (aA:(List QJ)) (fN:(List bJ)) (cv:(List Int)) (uB:(List QJ)) (Vv:Int):Nat→(Option aa)→((List Int)→Bool→Option aa)→Int→Option aa
 |0,_,_,_=>none
 |n_8+1,Dn,Dp,sB=>
  bif (decide (sB<Vv)) then
   bif (aQ sB (List.length uB)) then
    S82 N cv (List.getD uB (Int.toNat sB) cg).1 (fun avx=>
     bif avx then
      (nj N self ae aA fN cv uB Vv n_8 Dn Dp) (IntKind.wrap .i64 (sB+(1:Int)))
     else
      bif (aQ (0:Int) (List.length fN)) then
       I83 N ae (List.getD uB (Int.toNat sB) cg) (List.getD fN (Int.toNat (0:Int)) dm) (fun aq7=>
        bif (!aq7) then
         (nj N self ae aA fN cv uB Vv n_8 Dn Dp) (IntKind.wrap .i64 (sB+(1:Int)))
        else
         bif (decide ((0:Int)≤(1:Int))&&decide ((1:Int)≤(List.length fN:Int))&&decide ((List.length fN:Int)≤(List.length fN:Int))) then
          Jc N cv (fun acL=>
           bif (decide ((List.length acL+List.length [(List.getD uB (Int.toNat sB) cg).1])*1≤4398046511104)) then
            self ae aA (List.drop (Int.toNat (1:Int)) (List.take (Int.toNat (List.length fN:Int)) fN)) (acL++[(List.getD uB (Int.toNat sB) cg).1]) (fun acM aq8=>
             bif aq8 then
              bif (decide ((List.length [(List.getD uB (Int.toNat sB) cg).1]+List.length acM)*1≤4398046511104)) then
               Dp ([(List.getD uB (Int.toNat sB) cg).1]++acM) true
              else none
             else
              (nj N self ae aA fN cv uB Vv n_8 Dn Dp) (IntKind.wrap .i64 (sB+(1:Int))))
           else none)
         else none)
      else none)
   else none
  else
   Dn
noncomputable def R3 (self:(List QT)→(List QJ)→(List bJ)→(List Int)→((List Int)→Bool→Option aa)→Option aa) (N:Nat) (a0:(List QT)) (a1:(List QJ)) (a2:(List bJ)) (a3:(List Int)) (kf:(List Int)→Bool→Option aa):Option aa:=
 bif ((List.length a2:Int)==(0:Int)) then
  kf ([]:(List Int)) true
 else
  nj N self a0 a1 a2 a3 a1 (List.length a1:Int) N (kf ([]:(List Int)) false) kf (0:Int)
noncomputable def R4:Nat→(List QT)→(List QJ)→(List bJ)→(List Int)→((List Int)→Bool→Option aa)→Option aa
 |0,_,_,_,_,_=>none
 |N+1,a0,a1,a2,a3,kf=>R3 (R4 N) N a0 a1 a2 a3 kf
noncomputable def aiU (N:Nat) (a0:(List QT)) (a1:(List QJ)) (a2:(List bJ)) (kf:(List Int)→Bool→Option aa):Option aa:=
 I79 N a1 (fun iI=>
  bif (!iI) then
   kf ([]:(List Int)) false
  else
   Ap N a0 (fun gg=>
    bif (!gg) then
     kf ([]:(List Int)) false
    else
     bif (decide ((List.length a2:Int)>(List.length a1:Int))) then
      kf ([]:(List Int)) false
     else
      R4 N a0 a1 a2 ([]:(List Int)) kf))
noncomputable def I23 (N:Nat) (a0:QC) (kf:QC→Bool→Option aa):Option aa:=
 H5 N a0 (fun dO=>
  I39 N a0 (fun NF=>
   bif (!NF) then
    kf dO false
   else
    Vs N a0 (fun q8=>
     bif q8 then
      kf dO false
     else
      bif ((List.length a0.1:Int)==(0:Int)) then
       kf dO false
      else
       aiT N a0.1 (fun E0 acN=>
        aiU N a0.1 a0.2.1 E0 (fun avy avz=>
         bif (!acN) then
          kf dO false
         else
          bif (!avz) then
           kf dO false
          else
           bif (decide ((List.length E0:Int)=(List.length E0:Int))&&decide ((0:Int)≤(List.length E0:Int))&&decide ((List.length E0:Int)≤1099511627776)) then
            Jk N a0 (dO.1,(dO.2.1,(E0,(avy,((List.replicate (Int.toNat (List.length E0:Int)) ((0:Int),((0:Int),(0:Int)))),dO.2.2.2.2.2))))) (3:Int) (0:Int) kf
           else none)))))
noncomputable def I35 (N:Nat) (a0:QC) (a1:Int) (a2:Int) (a3:Int) (kf:QC→Bool→Option aa):Option aa:=
 H5 N a0 (fun eB=>
  I39 N a0 (fun NI=>
   bif (!NI) then
    kf eB false
   else
    bif (decide (a1<(0:Int))) then
     kf eB false
    else
     bif (decide (a1≥(List.length a0.2.2.1:Int))) then
      kf eB false
     else
      bif (aQ a1 (List.length a0.2.2.2.2.1)) then
       bif (!((decide (((List.getD a0.2.2.2.2.1 (Int.toNat a1) gQ).1:Int)=(0:Int)))&&((decide (((List.getD a0.2.2.2.2.1 (Int.toNat a1) gQ).2.1:Int)=(0:Int)))&&(decide (((List.getD a0.2.2.2.2.1 (Int.toNat a1) gQ).2.2:Int)=(0:Int)))))) then
        kf eB false
       else
        bif (aQ a1 (List.length a0.2.2.2.1)) then
         NC N ((List.getD a0.2.2.2.1 (Int.toNat a1) (0:Int)),(a2,a3)) (fun avA=>
          bif (!avA) then
           kf eB false
          else
           bif (aQ a1 (List.length eB.2.2.2.2.1)) then
            Jk N a0 (eB.1,(eB.2.1,(eB.2.2.1,(eB.2.2.2.1,((List.set eB.2.2.2.2.1 (Int.toNat a1) ((List.getD a0.2.2.2.1 (Int.toNat a1) (0:Int)),(a2,a3))),eB.2.2.2.2.2))))) (4:Int) (List.getD a0.2.2.2.1 (Int.toNat a1) (0:Int)) kf
           else none)
        else none
      else none))
noncomputable def sC (gG:(List QB)) (e9:Int):Nat→((List Int)→Option aa)→(List Int)→Int→Option aa
 |0,_,_,_=>none
 |lI+1,bj,bA,cH=>
  bif (decide (cH<e9)) then
   bif (aQ cH (List.length gG)) then
    bif ((decide (((List.getD gG (Int.toNat cH) gQ).1:Int)=(0:Int)))&&((decide (((List.getD gG (Int.toNat cH) gQ).2.1:Int)=(0:Int)))&&(decide (((List.getD gG (Int.toNat cH) gQ).2.2:Int)=(0:Int))))) then
     bif (decide ((List.length bA+List.length [cH])*1≤4398046511104)) then
      (sC gG e9 lI bj) (bA++[cH]) (IntKind.wrap .i64 (cH+(1:Int)))
     else none
    else
     (sC gG e9 lI bj) bA (IntKind.wrap .i64 (cH+(1:Int)))
   else none
  else
   bj bA
noncomputable def I41 (N:Nat) (a0:QC) (kf:(List Int)→Option aa):Option aa:=
 sC a0.2.2.2.2.1 (List.length a0.2.2.2.2.1:Int) N kf ([]:(List Int)) (0:Int)
noncomputable def nk (N:Nat) (ae:(List QB)) (gG:(List QB)) (e9:Int):Nat→(Option aa)→(Bool→Option aa)→Int→Option aa
 |0,_,_,_=>none
 |lI+1,iM,qc,cH=>
  bif (decide (cH<e9)) then
   bif (aQ cH (List.length gG)) then
    NC N (List.getD gG (Int.toNat cH) gQ) (fun kW=>
     bif (!kW) then
      qc false
     else
      bif (decide (cH>(0:Int))) then
       bif (aQ (IntKind.wrap .i64 (cH - (1:Int))) (List.length ae)) then
        bif (decide ((List.getD gG (Int.toNat cH) gQ).1≤(List.getD ae (Int.toNat (IntKind.wrap .i64 (cH - (1:Int)))) gQ).1)) then
         qc false
        else
         (nk N ae gG e9 lI iM qc) (IntKind.wrap .i64 (cH+(1:Int)))
       else none
      else
       (nk N ae gG e9 lI iM qc) (IntKind.wrap .i64 (cH+(1:Int))))
   else none
  else
   iM
noncomputable def Y0 (N:Nat) (a0:(List QB)) (kf:Bool→Option aa):Option aa:=
 bif (decide ((List.length a0:Int)>(9:Int))) then
  kf false
 else
  nk N a0 a0 (List.length a0:Int) N (kf true) kf (0:Int)
noncomputable def Y1 (N:Nat) (a0:QB) (kf:Int→Option aa):Option aa:=
 bif (decide (a0.2.1>a0.2.2)) then
  kf (1:Int)
 else
  kf (2:Int)
noncomputable def nm (N:Nat) (aA:Int) (aV:(List QB)) (cj:Int):Nat→(Int→Option aa)→Int→Int→Option aa
 |0,_,_,_=>none
 |R0+1,ck,aG,ic=>
  bif (decide (ic<cj)) then
   bif (aQ ic (List.length aV)) then
    Y1 N (List.getD aV (Int.toNat ic) gQ) (fun xF=>
     bif (xF==aA) then
      (nm N aA aV cj R0 ck) (IntKind.wrap .i64 (aG+(1:Int))) (IntKind.wrap .i64 (ic+(1:Int)))
     else
      (nm N aA aV cj R0 ck) aG (IntKind.wrap .i64 (ic+(1:Int))))
   else none
  else
   ck aG
noncomputable def acO (N:Nat) (a0:(List QB)) (a1:Int) (kf:Int→Option aa):Option aa:=
 Y0 N a0 (fun iI=>
  bif (!iI) then
   kf (0:Int)
  else
   nm N a1 a0 (List.length a0:Int) N kf (0:Int) (0:Int))
noncomputable def lM (aA:Int) (aV:(List QB)) (cj:Int):Nat→(Int→Option aa)→Int→Int→Option aa
 |0,_,_,_=>none
 |R0+1,dA,aG,ic=>
  bif (decide (ic<cj)) then
   bif (aQ ic (List.length aV)) then
    bif (aA==(1:Int)) then
     (lM aA aV cj R0 dA) (IntKind.wrap .i64 (aG+(List.getD aV (Int.toNat ic) gQ).2.1)) (IntKind.wrap .i64 (ic+(1:Int)))
    else
     bif (aA==(2:Int)) then
      (lM aA aV cj R0 dA) (IntKind.wrap .i64 (aG+(List.getD aV (Int.toNat ic) gQ).2.2)) (IntKind.wrap .i64 (ic+(1:Int)))
     else
      (lM aA aV cj R0 dA) aG (IntKind.wrap .i64 (ic+(1:Int)))
   else none
  else
   dA aG
noncomputable def R5 (N:Nat) (a0:(List QB)) (a1:Int) (kf:Int→Option aa):Option aa:=
 Y0 N a0 (fun iI=>
  bif (!iI) then
   kf (0:Int)
  else
   lM a1 a0 (List.length a0:Int) N kf (0:Int) (0:Int))
noncomputable def Vw (N:Nat) (a0:(List QB)) (kf:Int→Option aa):Option aa:=
 bif (aQ (0:Int) (List.length a0)) then
  Y1 N (List.getD a0 (Int.toNat (0:Int)) gQ) kf
 else none
noncomputable def Y2 (N:Nat) (a0:(List QB)) (kf:Int→Option aa):Option aa:=
 bif ((List.length a0:Int)==(0:Int)) then
  kf (0:Int)
 else
  Y0 N a0 (fun dO=>
   bif (!dO) then
    kf (0:Int)
   else
    acO N a0 (1:Int) (fun cG=>
     acO N a0 (2:Int) (fun q8=>
      R5 N a0 (1:Int) (fun E3=>
       R5 N a0 (2:Int) (fun acP=>
        bif (decide ((IntKind.wrap .i64 (cG - q8))>(0:Int))) then
         kf (1:Int)
        else
         bif ((IntKind.wrap .i64 (cG - q8))==(0:Int)) then
          bif (decide ((IntKind.wrap .i64 (E3 - acP))>(0:Int))) then
           kf (1:Int)
          else
           bif (decide ((IntKind.wrap .i64 (cG - q8))<(0:Int))) then
            kf (2:Int)
           else
            bif (decide ((IntKind.wrap .i64 (E3 - acP))<(0:Int))) then
             kf (2:Int)
            else
             Vw N a0 kf
         else
          bif (decide ((IntKind.wrap .i64 (cG - q8))<(0:Int))) then
           kf (2:Int)
          else
           bif (decide ((IntKind.wrap .i64 (E3 - acP))<(0:Int))) then
            kf (2:Int)
           else
            Vw N a0 kf)))))
noncomputable def Jt (N:Nat) (a0:(List QT)) (a4:Int) (a5:Int) (kf:(List QT)→Bool→Option aa) (ab:Int) (aD:Int) (bo:(List QT)):Option aa:=
 bif (aQ ab (List.length bo)) then
  bif (aQ ab (List.length bo)) then
   bif (aQ aD (List.length (List.set bo (Int.toNat ab) ((List.getD bo (Int.toNat ab) aj).1,((List.getD bo (Int.toNat ab) aj).2.1,((List.getD bo (Int.toNat ab) aj).2.2.1,((IntKind.wrap .i64 ((List.getD bo (Int.toNat ab) aj).2.2.2.1+a4)),(List.getD bo (Int.toNat ab) aj).2.2.2.2))))))) then
    bif (aQ aD (List.length (List.set bo (Int.toNat ab) ((List.getD bo (Int.toNat ab) aj).1,((List.getD bo (Int.toNat ab) aj).2.1,((List.getD bo (Int.toNat ab) aj).2.2.1,((IntKind.wrap .i64 ((List.getD bo (Int.toNat ab) aj).2.2.2.1+a4)),(List.getD bo (Int.toNat ab) aj).2.2.2.2))))))) then
     share (List.set (List.set bo (Int.toNat ab) ((List.getD bo (Int.toNat ab) aj).1,((List.getD bo (Int.toNat ab) aj).2.1,((List.getD bo (Int.toNat ab) aj).2.2.1,((IntKind.wrap .i64 ((List.getD bo (Int.toNat ab) aj).2.2.2.1+a4)),(List.getD bo (Int.toNat ab) aj).2.2.2.2))))) (Int.toNat aD) ((List.getD (List.set bo (Int.toNat ab) ((List.getD bo (Int.toNat ab) aj).1,((List.getD bo (Int.toNat ab) aj).2.1,((List.getD bo (Int.toNat ab) aj).2.2.1,((IntKind.wrap .i64 ((List.getD bo (Int.toNat ab) aj).2.2.2.1+a4)),(List.getD bo (Int.toNat ab) aj).2.2.2.2))))) (Int.toNat aD) aj).1,((List.getD (List.set bo (Int.toNat ab) ((List.getD bo (Int.toNat ab) aj).1,((List.getD bo (Int.toNat ab) aj).2.1,((List.getD bo (Int.toNat ab) aj).2.2.1,((IntKind.wrap .i64 ((List.getD bo (Int.toNat ab) aj).2.2.2.1+a4)),(List.getD bo (Int.toNat ab) aj).2.2.2.2))))) (Int.toNat aD) aj).2.1,((List.getD (List.set bo (Int.toNat ab) ((List.getD bo (Int.toNat ab) aj).1,((List.getD bo (Int.toNat ab) aj).2.1,((List.getD bo (Int.toNat ab) aj).2.2.1,((IntKind.wrap .i64 ((List.getD bo (Int.toNat ab) aj).2.2.2.1+a4)),(List.getD bo (Int.toNat ab) aj).2.2.2.2))))) (Int.toNat aD) aj).2.2.1,((IntKind.wrap .i64 ((List.getD (List.set bo (Int.toNat ab) ((List.getD bo (Int.toNat ab) aj).1,((List.getD bo (Int.toNat ab) aj).2.1,((List.getD bo (Int.toNat ab) aj).2.2.1,((IntKind.wrap .i64 ((List.getD bo (Int.toNat ab) aj).2.2.2.1+a4)),(List.getD bo (Int.toNat ab) aj).2.2.2.2))))) (Int.toNat aD) aj).2.2.2.1+a5)),(List.getD (List.set bo (Int.toNat ab) ((List.getD bo (Int.toNat ab) aj).1,((List.getD bo (Int.toNat ab) aj).2.1,((List.getD bo (Int.toNat ab) aj).2.2.1,((IntKind.wrap .i64 ((List.getD bo (Int.toNat ab) aj).2.2.2.1+a4)),(List.getD bo (Int.toNat ab) aj).2.2.2.2))))) (Int.toNat aD) aj).2.2.2.2))))) (fun acQ=>
      Ap N acQ (fun Ju=>
       bif (!Ju) then
        RK N a0 (fun Jv=>
         kf Jv false)
       else
        kf acQ true))
    else none
   else none
  else none
 else none
noncomputable def Y3 (N:Nat) (a0:(List QT)) (a1:Int) (a2:Int) (a3:Int) (a4:Int) (a5:Int) (kf:(List QT)→Bool→Option aa):Option aa:=
 RK N a0 (fun aE=>
  Ny N a0 a1 (fun ab=>
   Ny N a0 a2 (fun aD=>
    Ap N a0 (fun E4=>
     bif (!E4) then
      kf aE false
     else
      bif (decide (ab<(0:Int))) then
       kf aE false
      else
       bif (decide (aD<(0:Int))) then
        kf aE false
       else
        bif (ab==aD) then
         kf aE false
        else
         eP N a3 (1:Int) (2:Int) (fun acR=>
          bif (!acR) then
           kf aE false
          else
           eP N a4 (0:Int) (1000:Int) (fun acS=>
            bif (!acS) then
             kf aE false
            else
             eP N a5 (0:Int) (1000:Int) (fun acT=>
              bif (!acT) then
               kf aE false
              else
               bif (aQ ab (List.length aE)) then
                bif (aQ aD (List.length aE)) then
                 bif (decide ((List.length (List.getD aE (Int.toNat ab) aj).2.2.2.2.2+List.length [a2])*1≤4398046511104)) then
                  bif ((!(Nat.beq (Int.toNat ab) (Int.toNat aD)))&&true) then
                   bif (decide ((List.length (List.getD aE (Int.toNat aD) aj).2.2.2.2.2+List.length [a1])*1≤4398046511104)) then
                    bif (aQ ab (List.length aE)) then
                     bif (Nat.beq (Int.toNat ab) (Int.toNat ab)) then
                      bif (aQ aD (List.length (List.set aE (Int.toNat ab) ((List.getD aE (Int.toNat ab) aj).1,((List.getD aE (Int.toNat ab) aj).2.1,((List.getD aE (Int.toNat ab) aj).2.2.1,((List.getD aE (Int.toNat ab) aj).2.2.2.1,((List.getD aE (Int.toNat ab) aj).2.2.2.2.1,((List.getD aE (Int.toNat ab) aj).2.2.2.2.2++[a2]))))))))) then
                       bif (Nat.beq (Int.toNat aD) (Int.toNat aD)) then
                        share (List.set (List.set aE (Int.toNat ab) ((List.getD aE (Int.toNat ab) aj).1,((List.getD aE (Int.toNat ab) aj).2.1,((List.getD aE (Int.toNat ab) aj).2.2.1,((List.getD aE (Int.toNat ab) aj).2.2.2.1,((List.getD aE (Int.toNat ab) aj).2.2.2.2.1,((List.getD aE (Int.toNat ab) aj).2.2.2.2.2++[a2]))))))) (Int.toNat aD) ((List.getD (List.set aE (Int.toNat ab) ((List.getD aE (Int.toNat ab) aj).1,((List.getD aE (Int.toNat ab) aj).2.1,((List.getD aE (Int.toNat ab) aj).2.2.1,((List.getD aE (Int.toNat ab) aj).2.2.2.1,((List.getD aE (Int.toNat ab) aj).2.2.2.2.1,((List.getD aE (Int.toNat ab) aj).2.2.2.2.2++[a2]))))))) (Int.toNat aD) aj).1,((List.getD (List.set aE (Int.toNat ab) ((List.getD aE (Int.toNat ab) aj).1,((List.getD aE (Int.toNat ab) aj).2.1,((List.getD aE (Int.toNat ab) aj).2.2.1,((List.getD aE (Int.toNat ab) aj).2.2.2.1,((List.getD aE (Int.toNat ab) aj).2.2.2.2.1,((List.getD aE (Int.toNat ab) aj).2.2.2.2.2++[a2]))))))) (Int.toNat aD) aj).2.1,((List.getD (List.set aE (Int.toNat ab) ((List.getD aE (Int.toNat ab) aj).1,((List.getD aE (Int.toNat ab) aj).2.1,((List.getD aE (Int.toNat ab) aj).2.2.1,((List.getD aE (Int.toNat ab) aj).2.2.2.1,((List.getD aE (Int.toNat ab) aj).2.2.2.2.1,((List.getD aE (Int.toNat ab) aj).2.2.2.2.2++[a2]))))))) (Int.toNat aD) aj).2.2.1,((List.getD (List.set aE (Int.toNat ab) ((List.getD aE (Int.toNat ab) aj).1,((List.getD aE (Int.toNat ab) aj).2.1,((List.getD aE (Int.toNat ab) aj).2.2.1,((List.getD aE (Int.toNat ab) aj).2.2.2.1,((List.getD aE (Int.toNat ab) aj).2.2.2.2.1,((List.getD aE (Int.toNat ab) aj).2.2.2.2.2++[a2]))))))) (Int.toNat aD) aj).2.2.2.1,((List.getD (List.set aE (Int.toNat ab) ((List.getD aE (Int.toNat ab) aj).1,((List.getD aE (Int.toNat ab) aj).2.1,((List.getD aE (Int.toNat ab) aj).2.2.1,((List.getD aE (Int.toNat ab) aj).2.2.2.1,((List.getD aE (Int.toNat ab) aj).2.2.2.2.1,((List.getD aE (Int.toNat ab) aj).2.2.2.2.2++[a2]))))))) (Int.toNat aD) aj).2.2.2.2.1,((List.getD aE (Int.toNat aD) aj).2.2.2.2.2++[a1]))))))) (fun aB=>
                         bif (aQ ab (List.length aB)) then
                          bif (aQ ab (List.length aB)) then
                           bif (a3==(1:Int)) then
                            bif (aQ ab (List.length (List.set aB (Int.toNat ab) ((List.getD aB (Int.toNat ab) aj).1,((List.getD aB (Int.toNat ab) aj).2.1,((List.getD aB (Int.toNat ab) aj).2.2.1,((List.getD aB (Int.toNat ab) aj).2.2.2.1,((IntKind.wrap .i64 ((List.getD aB (Int.toNat ab) aj).2.2.2.2.1+(1:Int))),(List.getD aB (Int.toNat ab) aj).2.2.2.2.2)))))))) then
                             bif (aQ ab (List.length (List.set aB (Int.toNat ab) ((List.getD aB (Int.toNat ab) aj).1,((List.getD aB (Int.toNat ab) aj).2.1,((List.getD aB (Int.toNat ab) aj).2.2.1,((List.getD aB (Int.toNat ab) aj).2.2.2.1,((IntKind.wrap .i64 ((List.getD aB (Int.toNat ab) aj).2.2.2.2.1+(1:Int))),(List.getD aB (Int.toNat ab) aj).2.2.2.2.2)))))))) then
                              share (List.set (List.set aB (Int.toNat ab) ((List.getD aB (Int.toNat ab) aj).1,((List.getD aB (Int.toNat ab) aj).2.1,((List.getD aB (Int.toNat ab) aj).2.2.1,((List.getD aB (Int.toNat ab) aj).2.2.2.1,((IntKind.wrap .i64 ((List.getD aB (Int.toNat ab) aj).2.2.2.2.1+(1:Int))),(List.getD aB (Int.toNat ab) aj).2.2.2.2.2)))))) (Int.toNat ab) ((List.getD (List.set aB (Int.toNat ab) ((List.getD aB (Int.toNat ab) aj).1,((List.getD aB (Int.toNat ab) aj).2.1,((List.getD aB (Int.toNat ab) aj).2.2.1,((List.getD aB (Int.toNat ab) aj).2.2.2.1,((IntKind.wrap .i64 ((List.getD aB (Int.toNat ab) aj).2.2.2.2.1+(1:Int))),(List.getD aB (Int.toNat ab) aj).2.2.2.2.2)))))) (Int.toNat ab) aj).1,((List.getD (List.set aB (Int.toNat ab) ((List.getD aB (Int.toNat ab) aj).1,((List.getD aB (Int.toNat ab) aj).2.1,((List.getD aB (Int.toNat ab) aj).2.2.1,((List.getD aB (Int.toNat ab) aj).2.2.2.1,((IntKind.wrap .i64 ((List.getD aB (Int.toNat ab) aj).2.2.2.2.1+(1:Int))),(List.getD aB (Int.toNat ab) aj).2.2.2.2.2)))))) (Int.toNat ab) aj).2.1,((IntKind.wrap .i64 ((List.getD (List.set aB (Int.toNat ab) ((List.getD aB (Int.toNat ab) aj).1,((List.getD aB (Int.toNat ab) aj).2.1,((List.getD aB (Int.toNat ab) aj).2.2.1,((List.getD aB (Int.toNat ab) aj).2.2.2.1,((IntKind.wrap .i64 ((List.getD aB (Int.toNat ab) aj).2.2.2.2.1+(1:Int))),(List.getD aB (Int.toNat ab) aj).2.2.2.2.2)))))) (Int.toNat ab) aj).2.2.1+(1:Int))),(List.getD (List.set aB (Int.toNat ab) ((List.getD aB (Int.toNat ab) aj).1,((List.getD aB (Int.toNat ab) aj).2.1,((List.getD aB (Int.toNat ab) aj).2.2.1,((List.getD aB (Int.toNat ab) aj).2.2.2.1,((IntKind.wrap .i64 ((List.getD aB (Int.toNat ab) aj).2.2.2.2.1+(1:Int))),(List.getD aB (Int.toNat ab) aj).2.2.2.2.2)))))) (Int.toNat ab) aj).2.2.2)))) (fun aU=>
                               Jt N a0 a4 a5 kf ab aD aU)
                             else none
                            else none
                           else
                            bif (aQ aD (List.length (List.set aB (Int.toNat ab) ((List.getD aB (Int.toNat ab) aj).1,((List.getD aB (Int.toNat ab) aj).2.1,((List.getD aB (Int.toNat ab) aj).2.2.1,((List.getD aB (Int.toNat ab) aj).2.2.2.1,((IntKind.wrap .i64 ((List.getD aB (Int.toNat ab) aj).2.2.2.2.1+(1:Int))),(List.getD aB (Int.toNat ab) aj).2.2.2.2.2)))))))) then
                             bif (aQ aD (List.length (List.set aB (Int.toNat ab) ((List.getD aB (Int.toNat ab) aj).1,((List.getD aB (Int.toNat ab) aj).2.1,((List.getD aB (Int.toNat ab) aj).2.2.1,((List.getD aB (Int.toNat ab) aj).2.2.2.1,((IntKind.wrap .i64 ((List.getD aB (Int.toNat ab) aj).2.2.2.2.1+(1:Int))),(List.getD aB (Int.toNat ab) aj).2.2.2.2.2)))))))) then
                              share (List.set (List.set aB (Int.toNat ab) ((List.getD aB (Int.toNat ab) aj).1,((List.getD aB (Int.toNat ab) aj).2.1,((List.getD aB (Int.toNat ab) aj).2.2.1,((List.getD aB (Int.toNat ab) aj).2.2.2.1,((IntKind.wrap .i64 ((List.getD aB (Int.toNat ab) aj).2.2.2.2.1+(1:Int))),(List.getD aB (Int.toNat ab) aj).2.2.2.2.2)))))) (Int.toNat aD) ((List.getD (List.set aB (Int.toNat ab) ((List.getD aB (Int.toNat ab) aj).1,((List.getD aB (Int.toNat ab) aj).2.1,((List.getD aB (Int.toNat ab) aj).2.2.1,((List.getD aB (Int.toNat ab) aj).2.2.2.1,((IntKind.wrap .i64 ((List.getD aB (Int.toNat ab) aj).2.2.2.2.1+(1:Int))),(List.getD aB (Int.toNat ab) aj).2.2.2.2.2)))))) (Int.toNat aD) aj).1,((List.getD (List.set aB (Int.toNat ab) ((List.getD aB (Int.toNat ab) aj).1,((List.getD aB (Int.toNat ab) aj).2.1,((List.getD aB (Int.toNat ab) aj).2.2.1,((List.getD aB (Int.toNat ab) aj).2.2.2.1,((IntKind.wrap .i64 ((List.getD aB (Int.toNat ab) aj).2.2.2.2.1+(1:Int))),(List.getD aB (Int.toNat ab) aj).2.2.2.2.2)))))) (Int.toNat aD) aj).2.1,((IntKind.wrap .i64 ((List.getD (List.set aB (Int.toNat ab) ((List.getD aB (Int.toNat ab) aj).1,((List.getD aB (Int.toNat ab) aj).2.1,((List.getD aB (Int.toNat ab) aj).2.2.1,((List.getD aB (Int.toNat ab) aj).2.2.2.1,((IntKind.wrap .i64 ((List.getD aB (Int.toNat ab) aj).2.2.2.2.1+(1:Int))),(List.getD aB (Int.toNat ab) aj).2.2.2.2.2)))))) (Int.toNat aD) aj).2.2.1+(1:Int))),(List.getD (List.set aB (Int.toNat ab) ((List.getD aB (Int.toNat ab) aj).1,((List.getD aB (Int.toNat ab) aj).2.1,((List.getD aB (Int.toNat ab) aj).2.2.1,((List.getD aB (Int.toNat ab) aj).2.2.2.1,((IntKind.wrap .i64 ((List.getD aB (Int.toNat ab) aj).2.2.2.2.1+(1:Int))),(List.getD aB (Int.toNat ab) aj).2.2.2.2.2)))))) (Int.toNat aD) aj).2.2.2)))) (fun R6=>
                               Jt N a0 a4 a5 kf ab aD R6)
                             else none
                            else none
                          else none
                         else none)
                       else none
                      else none
                     else none
                    else none
                   else none
                  else none
                 else none
                else none
               else none)))))))
noncomputable def NL (N:Nat) (a0:(List Int)) (kf:(List Int)→Option aa):Option aa:=
 bif (Nat.blt (List.length a0) 4611686018427387904) then
  kf (kV a0)
 else none
noncomputable def Y4 (N:Nat) (a0:(List Int)) (kf:(List Int)→Option aa):Option aa:=
 kf (dt a0)
noncomputable def vz (N:Nat) (iK:QC) (YZ:QC) (fD:(List bJ)) (acU:Int):Nat→(QC→Option aa)→(QC→Bool→Option aa)→QC→Int→Option aa
 |0,_,_,_,_=>none
 |aq9+1,tz,tC,ig,iN=>
  bif (decide (iN<acU)) then
   bif (aQ iN (List.length fD)) then
    bif (aQ iN (List.length iK.2.2.2.2.1)) then
     Y2 N [(List.getD iK.2.2.2.2.1 (Int.toNat iN) gQ)] (fun E5=>
      Y3 N ig.1 (List.getD fD (Int.toNat iN) dm).1 (List.getD fD (Int.toNat iN) dm).2 E5 (List.getD iK.2.2.2.2.1 (Int.toNat iN) gQ).2.1 (List.getD iK.2.2.2.2.1 (Int.toNat iN) gQ).2.2 (fun E6 E7=>
       bif (!E7) then
        H5 N iK (fun E8=>
         tC E8 false)
       else
        bif (aQ iN (List.length iK.2.2.2.1)) then
         RZ N ig.2.1 (List.getD iK.2.2.2.1 (Int.toNat iN) (0:Int)) (fun cP=>
          bif (aQ cP (List.length ig.2.1)) then
           bif (decide ((List.length (List.getD ig.2.1 (Int.toNat cP) cg).2.2+List.length [(List.getD fD (Int.toNat iN) dm).1,(List.getD fD (Int.toNat iN) dm).2])*1≤4398046511104)) then
            NL N ((List.getD ig.2.1 (Int.toNat cP) cg).2.2++[(List.getD fD (Int.toNat iN) dm).1,(List.getD fD (Int.toNat iN) dm).2]) (fun E9=>
             Y4 N E9 (fun Fa=>
              bif (aQ cP (List.length ig.2.1)) then
               bif (Nat.beq (Int.toNat cP) (Int.toNat cP)) then
                (vz N iK YZ fD acU aq9 tz tC) (E6,((List.set ig.2.1 (Int.toNat cP) ((List.getD ig.2.1 (Int.toNat cP) cg).1,((List.getD ig.2.1 (Int.toNat cP) cg).2.1,Fa))),ig.2.2)) (IntKind.wrap .i64 (iN+(1:Int)))
               else none
              else none))
           else none
          else none)
        else none))
    else none
   else none
  else
   tz ig
noncomputable def I28 (N:Nat) (a0:QC) (kf:QC→Bool→Option aa):Option aa:=
 I39 N a0 (fun uC=>
  bif (!uC) then
   H5 N a0 (fun E4=>
    kf E4 false)
  else
   Vs N a0 (fun oA=>
    bif (!oA) then
     H5 N a0 (fun E4=>
      kf E4 false)
    else
     I41 N a0 (fun avB=>
      bif (decide ((List.length avB:Int)>(0:Int))) then
       H5 N a0 (fun avC=>
        kf avC false)
      else
       H5 N a0 (fun avD=>
        vz N a0 (([]:(List QT)),(([]:(List QJ)),(([]:(List bJ)),(([]:(List Int)),(([]:(List QB)),(([]:(List QL)),(0:Int))))))) a0.2.2.1 (List.length a0.2.2.1:Int) N (fun Vx=>
         Jk N a0 (Vx.1,(Vx.2.1,(([]:(List bJ)),(([]:(List Int)),(([]:(List QB)),(Vx.2.2.2.2.2.1,(IntKind.wrap .i64 (Vx.2.2.2.2.2.2+(List.length a0.2.2.1:Int))))))))) (5:Int) (0:Int) kf) kf avD (0:Int)))))
noncomputable def aq' (N:Nat) (a0:(List QT)) (a1:Int) (a2:Int) (kf:(List QT)→Option aa):Option aa:=
 bif (decide ((0:Int)≤a1)&&(decide (a1≤a2)&&decide (a2≤(List.length a0:Int)))) then
  kf (List.take (Int.toNat a1) a0++List.drop (Int.toNat a2) a0)
 else none
noncomputable def I38 (N:Nat) (a0:QC) (a1:Int) (kf:QC→Bool→Option aa):Option aa:=
 H5 N a0 (fun iI=>
  Ny N a0.1 a1 (fun gg=>
   bif (decide (gg<(0:Int))) then
    kf iI false
   else
    bif (aQ gg (List.length a0.1)) then
     bif (decide ((List.length (List.getD a0.1 (Int.toNat gg) aj).2.2.2.2.2:Int)>(0:Int))) then
      kf iI false
     else
      Vs N a0 (fun acV=>
       bif acV then
        kf iI false
       else
        aq' N iI.1 gg (IntKind.wrap .i64 (gg+(1:Int))) (fun avE=>
         Jk N a0 (avE,iI.2) (6:Int) a1 kf))
    else none))
noncomputable def I13 (N:Nat) (a0:QC) (a1:QL) (kf:QC→Bool→Option aa):Option aa:=
 bif (a1.1==(1:Int)) then
  I30 N a0 a1.2.1 a1.2.2.1 kf
 else
  bif (a1.1==(2:Int)) then
   I32 N a0 a1.2.1 a1.2.2.1 kf
  else
   bif (a1.1==(3:Int)) then
    I23 N a0 kf
   else
    bif (a1.1==(4:Int)) then
     I35 N a0 a1.2.2.2 a1.2.1 a1.2.2.1 kf
    else
     bif (a1.1==(5:Int)) then
      I28 N a0 kf
     else
      bif (a1.1==(6:Int)) then
       I38 N a0 a1.2.1 kf
      else
       H5 N a0 (fun R7=>
        kf R7 false)
noncomputable def qd (ae:(List QT)):Nat→((List QT)→Option aa)→(List QT)→Int→Option aa
 |0,_,_,_=>none
 |ug+1,gA,ai,bz=>
  bif (decide (bz<(List.length ae:Int))) then
   bif (aQ bz (List.length ae)) then
    bif (decide ((List.length ([]:(List Int))+List.length (List.getD ae (Int.toNat bz) aj).2.2.2.2.2)*1≤4398046511104)) then
     bif (decide ((List.length ai+List.length [((List.getD ae (Int.toNat bz) aj).1,((List.getD ae (Int.toNat bz) aj).2.1,((List.getD ae (Int.toNat bz) aj).2.2.1,((List.getD ae (Int.toNat bz) aj).2.2.2.1,((List.getD ae (Int.toNat bz) aj).2.2.2.2.1,(([]:(List Int))++(List.getD ae (Int.toNat bz) aj).2.2.2.2.2))))))])*6≤4398046511104)) then
      (qd ae ug gA) (ai++[((List.getD ae (Int.toNat bz) aj).1,((List.getD ae (Int.toNat bz) aj).2.1,((List.getD ae (Int.toNat bz) aj).2.2.1,((List.getD ae (Int.toNat bz) aj).2.2.2.1,((List.getD ae (Int.toNat bz) aj).2.2.2.2.1,(([]:(List Int))++(List.getD ae (Int.toNat bz) aj).2.2.2.2.2))))))]) (IntKind.wrap .i64 (bz+(1:Int)))
     else none
    else none
   else none
  else
   gA ai
noncomputable def Fb (N:Nat) (a0:(List QT)) (kf:(List QT)→Option aa):Option aa:=
 qd a0 N kf ([]:(List QT)) (0:Int)
noncomputable def qe (ae:(List QJ)):Nat→((List QJ)→Option aa)→(List QJ)→Int→Option aa
 |0,_,_,_=>none
 |ug+1,gA,ai,bz=>
  bif (decide (bz<(List.length ae:Int))) then
   bif (aQ bz (List.length ae)) then
    bif (decide ((List.length ([]:(List Int))+List.length (List.getD ae (Int.toNat bz) cg).2.2)*1≤4398046511104)) then
     bif (decide ((List.length ai+List.length [((List.getD ae (Int.toNat bz) cg).1,((List.getD ae (Int.toNat bz) cg).2.1,(([]:(List Int))++(List.getD ae (Int.toNat bz) cg).2.2)))])*3≤4398046511104)) then
      (qe ae ug gA) (ai++[((List.getD ae (Int.toNat bz) cg).1,((List.getD ae (Int.toNat bz) cg).2.1,(([]:(List Int))++(List.getD ae (Int.toNat bz) cg).2.2)))]) (IntKind.wrap .i64 (bz+(1:Int)))
     else none
    else none
   else none
  else
   gA ai
noncomputable def R8 (N:Nat) (a0:(List QJ)) (kf:(List QJ)→Option aa):Option aa:=
 qe a0 N kf ([]:(List QJ)) (0:Int)
noncomputable def R9 (N:Nat) (a0:QC) (kf:QC→Option aa):Option aa:=
 Fb N a0.1 (fun ER=>
  R8 N a0.2.1 (fun acv=>
   bif (decide ((List.length ([]:(List bJ))+List.length a0.2.2.1)*2≤4398046511104)) then
    bif (decide ((List.length ([]:(List Int))+List.length a0.2.2.2.1)*1≤4398046511104)) then
     bif (decide ((List.length ([]:(List QB))+List.length a0.2.2.2.2.1)*3≤4398046511104)) then
      bif (decide ((List.length ([]:(List QL))+List.length a0.2.2.2.2.2.1)*4≤4398046511104)) then
       kf (ER,(acv,((([]:(List bJ))++a0.2.2.1),((([]:(List Int))++a0.2.2.2.1),((([]:(List QB))++a0.2.2.2.2.1),((([]:(List QL))++a0.2.2.2.2.2.1),a0.2.2.2.2.2.2))))))
      else none
     else none
    else none
   else none))
noncomputable def gH (N:Nat) (a0:Int) (a1:Int) (a2:Int) (kf:Bool→Option aa):Option aa:=
 bif (decide (a0≥a1)) then
  kf (decide (a0≤a2))
 else
  kf false
noncomputable def qf (ae:(List QT)) (aA:Int):Nat→(Option aa)→(Int→Option aa)→Int→Option aa
 |0,_,_,_=>none
 |ug+1,bT,cK,aG=>
  bif (decide (aG<(List.length ae:Int))) then
   bif (aQ aG (List.length ae)) then
    bif ((List.getD ae (Int.toNat aG) aj).1==aA) then
     cK aG
    else
     (qf ae aA ug bT cK) (IntKind.wrap .i64 (aG+(1:Int)))
   else none
  else
   bT
noncomputable def vA (N:Nat) (a0:(List QT)) (a1:Int) (kf:Int→Option aa):Option aa:=
 qf a0 a1 N (kf (-1:Int)) kf (0:Int)
noncomputable def np (ae:(List Int)) (aA:Int):Nat→(Int→Option aa)→Int→Int→Option aa
 |0,_,_,_=>none
 |lI+1,bj,aG,dU=>
  bif (decide (dU<(List.length ae:Int))) then
   bif (aQ dU (List.length ae)) then
    bif ((List.getD ae (Int.toNat dU) (0:Int))==aA) then
     (np ae aA lI bj) (IntKind.wrap .i64 (aG+(1:Int))) (IntKind.wrap .i64 (dU+(1:Int)))
    else
     (np ae aA lI bj) aG (IntKind.wrap .i64 (dU+(1:Int)))
   else none
  else
   bj aG
noncomputable def Sa (N:Nat) (a0:(List Int)) (a1:Int) (kf:Int→Option aa):Option aa:=
 np a0 a1 N kf (0:Int) (0:Int)
noncomputable def jC (N:Nat) (xG:(List QT)) (H8:Int) (e8:QT):Nat→(Option aa)→(Bool→Option aa)→Int→Option aa
 |0,_,_,_=>none
 |aq9+1,tD,kH,Vy=>
  bif (decide (Vy<(List.length e8.2.2.2.2.2:Int))) then
   bif (aQ Vy (List.length e8.2.2.2.2.2)) then
    vA N xG (List.getD e8.2.2.2.2.2 (Int.toNat Vy) (0:Int)) (fun kn=>
     bif (decide (kn<(0:Int))) then
      kH false
     else
      bif (kn==H8) then
       kH false
      else
       bif (aQ kn (List.length xG)) then
        bif (aQ kn (List.length xG)) then
         Sa N (List.getD xG (Int.toNat kn) aj).2.2.2.2.2 e8.1 (fun Jw=>
          Sa N e8.2.2.2.2.2 (List.getD xG (Int.toNat kn) aj).1 (fun Jx=>
           bif (Jw != Jx) then
            kH false
           else
            (jC N xG H8 e8 aq9 tD kH) (IntKind.wrap .i64 (Vy+(1:Int)))))
        else none
       else none)
   else none
  else
   tD
noncomputable def nq (N:Nat) (ae:(List QT)):Nat→(Option aa)→(Bool→Option aa)→Int→Option aa
 |0,_,_,_=>none
 |n_3+1,qg,cQ,ai=>
  bif (decide (ai<(List.length ae:Int))) then
   bif (aQ ai (List.length ae)) then
    gH N (List.getD ae (Int.toNat ai) aj).1 (1:Int) (99:Int) (fun E3=>
     bif (!E3) then
      cQ false
     else
      gH N (List.getD ae (Int.toNat ai) aj).2.1 (1:Int) (99:Int) (fun Fe=>
       bif (!Fe) then
        cQ false
       else
        gH N (List.getD ae (Int.toNat ai) aj).2.2.1 (0:Int) (List.length (List.getD ae (Int.toNat ai) aj).2.2.2.2.2:Int) (fun NG=>
         bif (!NG) then
          cQ false
         else
          gH N (List.getD ae (Int.toNat ai) aj).2.2.2.2.1 (0:Int) (List.length (List.getD ae (Int.toNat ai) aj).2.2.2.2.2:Int) (fun acW=>
           bif (!acW) then
            cQ false
           else
            gH N (List.getD ae (Int.toNat ai) aj).2.2.2.1 (0:Int) (100000:Int) (fun acX=>
             bif (!acX) then
              cQ false
             else
              bif (decide ((List.length (List.getD ae (Int.toNat ai) aj).2.2.2.2.2:Int)>(20:Int))) then
               cQ false
              else
               bif (decide (ai>(0:Int))) then
                bif (aQ (IntKind.wrap .i64 (ai - (1:Int))) (List.length ae)) then
                 bif (decide ((List.getD ae (Int.toNat (IntKind.wrap .i64 (ai - (1:Int)))) aj).1≥(List.getD ae (Int.toNat ai) aj).1)) then
                  cQ false
                 else
                  jC N ae ai (List.getD ae (Int.toNat ai) aj) N ((nq N ae n_3 qg cQ) (IntKind.wrap .i64 (ai+(1:Int)))) cQ (0:Int)
                else none
               else
                jC N ae ai (List.getD ae (Int.toNat ai) aj) N ((nq N ae n_3 qg cQ) (IntKind.wrap .i64 (ai+(1:Int)))) cQ (0:Int))))))
   else none
  else
   qg
noncomputable def uh (N:Nat) (a0:(List QT)) (kf:Bool→Option aa):Option aa:=
 nq N a0 N (kf (decide ((List.length a0:Int)≤(10:Int)))) kf (0:Int)
noncomputable def acY (N:Nat) (a0:QT) (a1:QT) (kf:Bool→Option aa):Option aa:=
 bif (a0.2.2.1 != a1.2.2.1) then
  kf (decide (a0.2.2.1>a1.2.2.1))
 else
  bif (decide (a0.2.2.2.1>a1.2.2.2.1)) then
   kf true
  else
   bif (a0.2.2.2.1==a1.2.2.2.1) then
    kf (decide (a0.1<a1.1))
   else
    kf false
noncomputable def k8 (nr:(List QT)):Nat→((List Int)→Option aa)→(List Int)→Int→Option aa
 |0,_,_,_=>none
 |awZ+1,oH,lC,NM=>
  bif (decide (NM<(List.length nr:Int))) then
   bif (aQ NM (List.length nr)) then
    bif (decide ((List.length lC+List.length [(List.getD nr (Int.toNat NM) aj).1])*1≤4398046511104)) then
     (k8 nr awZ oH) (lC++[(List.getD nr (Int.toNat NM) aj).1]) (IntKind.wrap .i64 (NM+(1:Int)))
    else none
   else none
  else
   oH lC
noncomputable def qh (N:Nat) (dZ:(List QT)) (gR:(List QT)) (so:Int):Nat→(Int→Option aa)→Int→Option aa
 |0,_,_=>none
 |NH+1,Jy,Y5=>
  bif (decide (Y5>(0:Int))) then
   bif (aQ so (List.length dZ)) then
    bif (aQ (IntKind.wrap .i64 (Y5 - (1:Int))) (List.length gR)) then
     acY N (List.getD dZ (Int.toNat so) aj) (List.getD gR (Int.toNat (IntKind.wrap .i64 (Y5 - (1:Int)))) aj) (fun RJ=>
      bif RJ then
       (qh N dZ gR so NH Jy) (IntKind.wrap .i64 (Y5 - (1:Int)))
      else
       Jy Y5)
    else none
   else none
  else
   Jy Y5
noncomputable def qi (N:Nat) (ae:(List QT)):Nat→((List QT)→Option aa)→(List QT)→Int→Option aa
 |0,_,_,_=>none
 |ug+1,ns,ai,bz=>
  bif (decide (bz<(List.length ae:Int))) then
   uh N ae (fun acZ=>
    bif acZ then
     qh N ae ai bz N (fun ij=>
      bif (decide ((0:Int)≤(0:Int))&&decide ((0:Int)≤ij)&&decide (ij≤(List.length ai:Int))) then
       bif (aQ bz (List.length ae)) then
        bif (decide ((0:Int)≤ij)&&decide (ij≤(List.length ai:Int))&&decide ((List.length ai:Int)≤(List.length ai:Int))) then
         bif (decide ((List.length ([]:(List QT))+List.length (List.drop 0 (List.take (Int.toNat ij) ai)))*6≤4398046511104)) then
          bif (decide ((List.length (([]:(List QT))++(List.drop 0 (List.take (Int.toNat ij) ai)))+List.length [(List.getD ae (Int.toNat bz) aj)])*6≤4398046511104)) then
           bif (decide ((List.length ((([]:(List QT))++(List.drop 0 (List.take (Int.toNat ij) ai)))++[(List.getD ae (Int.toNat bz) aj)])+List.length (List.drop (Int.toNat ij) (List.take (Int.toNat (List.length ai:Int)) ai)))*6≤4398046511104)) then
            (qi N ae ug ns) (((([]:(List QT))++(List.drop 0 (List.take (Int.toNat ij) ai)))++[(List.getD ae (Int.toNat bz) aj)])++(List.drop (Int.toNat ij) (List.take (Int.toNat (List.length ai:Int)) ai))) (IntKind.wrap .i64 (bz+(1:Int)))
           else none
          else none
         else none
        else none
       else none
      else none) (List.length ai:Int)
    else
     ns ai)
  else
   ns ai
noncomputable def aiV (N:Nat) (a0:(List QT)) (kf:(List Int)→Option aa):Option aa:=
 qi N a0 N (fun avF=>
  k8 avF N kf ([]:(List Int)) (0:Int)) ([]:(List QT)) (0:Int)
noncomputable def qj (ae:(List Int)) (aA:Int):Nat→(Option aa)→(Bool→Option aa)→Int→Option aa
 |0,_,_,_=>none
 |ug+1,bT,cK,aG=>
  bif (decide (aG<(List.length ae:Int))) then
   bif (aQ aG (List.length ae)) then
    bif ((List.getD ae (Int.toNat aG) (0:Int))==aA) then
     cK true
    else
     (qj ae aA ug bT cK) (IntKind.wrap .i64 (aG+(1:Int)))
   else none
  else
   bT
noncomputable def vB (N:Nat) (a0:(List Int)) (a1:Int) (kf:Bool→Option aa):Option aa:=
 qj a0 a1 N (kf false) kf (0:Int)
noncomputable def aiW (N:Nat) (a0:(List QT)) (a1:Int) (a2:Int) (kf:Bool→Option aa):Option aa:=
 vA N a0 a1 (fun dO=>
  bif (decide (dO≥(0:Int))) then
   bif (aQ dO (List.length a0)) then
    vB N (List.getD a0 (Int.toNat dO) aj).2.2.2.2.2 a2 kf
   else none
  else
   kf false)
noncomputable def Sb (N:Nat) (a0:(List QT)) (a1:Int) (a2:Int) (kf:Bool→Option aa):Option aa:=
 vA N a0 a1 (fun cu=>
  vA N a0 a2 (fun cG=>
   uh N a0 (fun q8=>
    bif q8 then
     bif (decide (cu≥(0:Int))) then
      bif (decide (cG≥(0:Int))) then
       bif (cu != cG) then
        bif (aQ cu (List.length a0)) then
         bif (aQ cG (List.length a0)) then
          bif ((List.getD a0 (Int.toNat cu) aj).2.1 != (List.getD a0 (Int.toNat cG) aj).2.1) then
           aiW N a0 a1 a2 (fun acF=>
            kf (!acF))
          else
           kf false
         else none
        else none
       else
        kf false
      else
       kf false
     else
      kf false
    else
     kf false)))
noncomputable def aiX (N:Nat) (a0:(List QT)) (a1:Int) (a2:Int) (kf:bJ→Option aa):Option aa:=
 vA N a0 a1 (fun cu=>
  vA N a0 a2 (fun cG=>
   uh N a0 (fun q8=>
    bif (!q8) then
     kf ((0:Int),(0:Int))
    else
     bif (decide (cu<(0:Int))) then
      kf ((0:Int),(0:Int))
     else
      bif (decide (cG<(0:Int))) then
       kf ((0:Int),(0:Int))
      else
       bif (cu==cG) then
        kf ((0:Int),(0:Int))
       else
        bif (aQ cG (List.length a0)) then
         bif (aQ cu (List.length a0)) then
          bif (decide ((List.getD a0 (Int.toNat cG) aj).2.2.2.2.1<(List.getD a0 (Int.toNat cu) aj).2.2.2.2.1)) then
           kf (a2,a1)
          else
           bif (aQ cG (List.length a0)) then
            bif (aQ cu (List.length a0)) then
             bif ((List.getD a0 (Int.toNat cG) aj).2.2.2.2.1==(List.getD a0 (Int.toNat cu) aj).2.2.2.2.1) then
              bif (aQ cG (List.length a0)) then
               bif (aQ cu (List.length a0)) then
                acY N (List.getD a0 (Int.toNat cG) aj) (List.getD a0 (Int.toNat cu) aj) (fun avG=>
                 bif avG then
                  kf (a2,a1)
                 else
                  kf (a1,a2))
               else none
              else none
             else
              kf (a1,a2)
            else none
           else none
         else none
        else none)))
noncomputable def qk (N:Nat) (self:(List QT)→(List Int)→((List bJ)→Bool→Option aa)→Option aa) (ae:(List QT)) (aA:(List Int)):Nat→(Option aa)→((List bJ)→Bool→Option aa)→Int→Option aa
 |0,_,_,_=>none
 |ug+1,Sc,Jz,dv=>
  bif (decide (dv<(List.length aA:Int))) then
   bif (aQ (0:Int) (List.length aA)) then
    bif (aQ dv (List.length aA)) then
     Sb N ae (List.getD aA (Int.toNat (0:Int)) (0:Int)) (List.getD aA (Int.toNat dv) (0:Int)) (fun acN=>
      bif (!acN) then
       (qk N self ae aA ug Sc Jz) (IntKind.wrap .i64 (dv+(1:Int)))
      else
       bif (decide ((0:Int)≤(1:Int))&&decide ((1:Int)≤dv)&&decide (dv≤(List.length aA:Int))) then
        bif (decide ((0:Int)≤(IntKind.wrap .i64 (dv+(1:Int))))&&decide ((IntKind.wrap .i64 (dv+(1:Int)))≤(List.length aA:Int))&&decide ((List.length aA:Int)≤(List.length aA:Int))) then
         bif (decide ((List.length ([]:(List Int))+List.length (List.drop (Int.toNat (1:Int)) (List.take (Int.toNat dv) aA)))*1≤4398046511104)) then
          bif (decide ((List.length (([]:(List Int))++(List.drop (Int.toNat (1:Int)) (List.take (Int.toNat dv) aA)))+List.length (List.drop (Int.toNat (IntKind.wrap .i64 (dv+(1:Int)))) (List.take (Int.toNat (List.length aA:Int)) aA)))*1≤4398046511104)) then
           self ae ((([]:(List Int))++(List.drop (Int.toNat (1:Int)) (List.take (Int.toNat dv) aA)))++(List.drop (Int.toNat (IntKind.wrap .i64 (dv+(1:Int)))) (List.take (Int.toNat (List.length aA:Int)) aA))) (fun ao9 avH=>
            bif avH then
             bif (aQ (0:Int) (List.length aA)) then
              bif (aQ dv (List.length aA)) then
               aiX N ae (List.getD aA (Int.toNat (0:Int)) (0:Int)) (List.getD aA (Int.toNat dv) (0:Int)) (fun H6=>
                bif (decide ((List.length [H6]+List.length ao9)*2≤4398046511104)) then
                 Jz ([H6]++ao9) true
                else none)
              else none
             else none
            else
             (qk N self ae aA ug Sc Jz) (IntKind.wrap .i64 (dv+(1:Int))))
          else none
         else none
        else none
       else none)
    else none
   else none
  else
   Sc
noncomputable def Sd (self:(List QT)→(List Int)→((List bJ)→Bool→Option aa)→Option aa) (N:Nat) (a0:(List QT)) (a1:(List Int)) (kf:(List bJ)→Bool→Option aa):Option aa:=
 bif ((List.length a1:Int)==(0:Int)) then
  kf ([]:(List bJ)) true
 else
  qk N self a0 a1 N (kf ([]:(List bJ)) false) kf (1:Int)
noncomputable def Se:Nat→(List QT)→(List Int)→((List bJ)→Bool→Option aa)→Option aa
 |0,_,_,_=>none
 |N+1,a0,a1,kf=>Sd (Se N) N a0 a1 kf
noncomputable def S91 (N:Nat) (a0:(List QT)) (kf:(List bJ)→Bool→Option aa):Option aa:=
 uh N a0 (fun ER=>
  bif (!ER) then
   kf ([]:(List bJ)) false
  else
   bif ((Int.tmod (List.length a0:Int) (2:Int))==(1:Int)) then
    kf ([]:(List bJ)) false
   else
    aiV N a0 (fun oA=>
     Se N a0 oA kf))
noncomputable def iB (N:Nat) (dZ:(List QJ)) (gR:Int):Nat→(Option aa)→(Bool→Option aa)→Int→Option aa
 |0,_,_,_=>none
 |n_9+1,qm,lN,so=>
  bif (aQ gR (List.length dZ)) then
   bif (decide (so<(List.length (List.getD dZ (Int.toNat gR) cg).2.2:Int))) then
    bif (aQ gR (List.length dZ)) then
     bif (aQ so (List.length (List.getD dZ (Int.toNat gR) cg).2.2)) then
      gH N (List.getD (List.getD dZ (Int.toNat gR) cg).2.2 (Int.toNat so) (0:Int)) (1:Int) (99:Int) (fun Sf=>
       bif (!Sf) then
        lN false
       else
        bif (decide (so>(0:Int))) then
         bif (aQ gR (List.length dZ)) then
          bif (aQ (IntKind.wrap .i64 (so - (1:Int))) (List.length (List.getD dZ (Int.toNat gR) cg).2.2)) then
           bif (aQ gR (List.length dZ)) then
            bif (aQ so (List.length (List.getD dZ (Int.toNat gR) cg).2.2)) then
             bif (decide ((List.getD (List.getD dZ (Int.toNat gR) cg).2.2 (Int.toNat (IntKind.wrap .i64 (so - (1:Int)))) (0:Int))≥(List.getD (List.getD dZ (Int.toNat gR) cg).2.2 (Int.toNat so) (0:Int)))) then
              lN false
             else
              (iB N dZ gR n_9 qm lN) (IntKind.wrap .i64 (so+(1:Int)))
            else none
           else none
          else none
         else none
        else
         (iB N dZ gR n_9 qm lN) (IntKind.wrap .i64 (so+(1:Int))))
     else none
    else none
   else
    qm
  else none
noncomputable def nt (N:Nat) (ae:(List QJ)):Nat→(Option aa)→(Bool→Option aa)→Int→Option aa
 |0,_,_,_=>none
 |n_3+1,qn,fE,ai=>
  bif (decide (ai<(List.length ae:Int))) then
   bif (aQ ai (List.length ae)) then
    gH N (List.getD ae (Int.toNat ai) cg).1 (1:Int) (99:Int) (fun Nx=>
     bif (!Nx) then
      fE false
     else
      bif (aQ ai (List.length ae)) then
       gH N (List.getD ae (Int.toNat ai) cg).2.1 (1:Int) (99:Int) (fun Fe=>
        bif (!Fe) then
         fE false
        else
         bif (decide (ai>(0:Int))) then
          bif (aQ (IntKind.wrap .i64 (ai - (1:Int))) (List.length ae)) then
           bif (aQ ai (List.length ae)) then
            bif (decide ((List.getD ae (Int.toNat (IntKind.wrap .i64 (ai - (1:Int)))) cg).1≥(List.getD ae (Int.toNat ai) cg).1)) then
             fE false
            else
             iB N ae ai N ((nt N ae n_3 qn fE) (IntKind.wrap .i64 (ai+(1:Int)))) fE (0:Int)
           else none
          else none
         else
          iB N ae ai N ((nt N ae n_3 qn fE) (IntKind.wrap .i64 (ai+(1:Int)))) fE (0:Int))
      else none)
   else none
  else
   qn
noncomputable def Y6 (N:Nat) (a0:(List QJ)) (kf:Bool→Option aa):Option aa:=
 nt N a0 N (kf (decide ((List.length a0:Int)≤(10:Int)))) kf (0:Int)
noncomputable def Y7 (N:Nat) (a0:(List QT)) (a1:QJ) (a2:bJ) (kf:Bool→Option aa):Option aa:=
 vA N a0 a2.1 (fun uC=>
  vA N a0 a2.2 (fun oA=>
   bif (decide (uC≥(0:Int))) then
    bif (decide (oA≥(0:Int))) then
     bif (aQ uC (List.length a0)) then
      bif ((List.getD a0 (Int.toNat uC) aj).2.1 != a1.2.1) then
       bif (aQ oA (List.length a0)) then
        bif ((List.getD a0 (Int.toNat oA) aj).2.1 != a1.2.1) then
         vB N a1.2.2 a2.1 (fun avI=>
          bif (!avI) then
           vB N a1.2.2 a2.2 (fun ac0=>
            kf (!ac0))
          else
           kf false)
        else
         kf false
       else none
      else
       kf false
     else none
    else
     kf false
   else
    kf false))
noncomputable def nu (N:Nat) (self:(List QT)→(List QJ)→(List bJ)→(List Int)→((List Int)→Bool→Option aa)→Option aa) (ae:(List QT)) (aA:(List QJ)) (fN:(List bJ)) (cv:(List Int)):Nat→(Option aa)→((List Int)→Bool→Option aa)→Int→Option aa
 |0,_,_,_=>none
 |rD+1,jD,fF,eR=>
  bif (decide (eR<(List.length aA:Int))) then
   bif (aQ eR (List.length aA)) then
    vB N cv (List.getD aA (Int.toNat eR) cg).1 (fun avJ=>
     bif avJ then
      (nu N self ae aA fN cv rD jD fF) (IntKind.wrap .i64 (eR+(1:Int)))
     else
      bif (aQ eR (List.length aA)) then
       bif (aQ (0:Int) (List.length fN)) then
        Y7 N ae (List.getD aA (Int.toNat eR) cg) (List.getD fN (Int.toNat (0:Int)) dm) (fun sw=>
         bif (!sw) then
          (nu N self ae aA fN cv rD jD fF) (IntKind.wrap .i64 (eR+(1:Int)))
         else
          bif (decide ((0:Int)≤(1:Int))&&decide ((1:Int)≤(List.length fN:Int))&&decide ((List.length fN:Int)≤(List.length fN:Int))) then
           bif (aQ eR (List.length aA)) then
            bif (decide ((List.length ([]:(List Int))+List.length cv)*1≤4398046511104)) then
             bif (decide ((List.length (([]:(List Int))++cv)+List.length [(List.getD aA (Int.toNat eR) cg).1])*1≤4398046511104)) then
              self ae aA (List.drop (Int.toNat (1:Int)) (List.take (Int.toNat (List.length fN:Int)) fN)) ((([]:(List Int))++cv)++[(List.getD aA (Int.toNat eR) cg).1]) (fun ao' ara=>
               bif ara then
                bif (aQ eR (List.length aA)) then
                 bif (decide ((List.length [(List.getD aA (Int.toNat eR) cg).1]+List.length ao')*1≤4398046511104)) then
                  fF ([(List.getD aA (Int.toNat eR) cg).1]++ao') true
                 else none
                else none
               else
                (nu N self ae aA fN cv rD jD fF) (IntKind.wrap .i64 (eR+(1:Int))))
             else none
            else none
           else none
          else none)
       else none
      else none)
   else none
  else
   jD
noncomputable def Sg (self:(List QT)→(List QJ)→(List bJ)→(List Int)→((List Int)→Bool→Option aa)→Option aa) (N:Nat) (a0:(List QT)) (a1:(List QJ)) (a2:(List bJ)) (a3:(List Int)) (kf:(List Int)→Bool→Option aa):Option aa:=
 bif ((List.length a2:Int)==(0:Int)) then
  kf ([]:(List Int)) true
 else
  nu N self a0 a1 a2 a3 N (kf ([]:(List Int)) false) kf (0:Int)
noncomputable def Sh:Nat→(List QT)→(List QJ)→(List bJ)→(List Int)→((List Int)→Bool→Option aa)→Option aa
 |0,_,_,_,_,_=>none
 |N+1,a0,a1,a2,a3,kf=>Sg (Sh N) N a0 a1 a2 a3 kf
noncomputable def S92 (N:Nat) (a0:(List QT)) (a1:(List QJ)) (a2:(List bJ)) (kf:(List Int)→Bool→Option aa):Option aa:=
 Y6 N a1 (fun iI=>
  bif (!iI) then
   kf ([]:(List Int)) false
  else
   uh N a0 (fun gg=>
    bif (!gg) then
     kf ([]:(List Int)) false
    else
     Sh N a0 a1 a2 ([]:(List Int)) kf))
noncomputable def S94 (N:Nat) (a0:QC) (kf:Bool→Option aa):Option aa:=
 kf (decide ((List.length a0.2.2.1:Int)>(0:Int)))
noncomputable def arb (N:Nat) (a0:(List QL)) (kf:Int→Option aa):Option aa:=
 bif ((List.length a0:Int)==(0:Int)) then
  kf (0:Int)
 else
  bif (aQ (IntKind.wrap .i64 ((List.length a0:Int) - (1:Int))) (List.length a0)) then
   kf (List.getD a0 (Int.toNat (IntKind.wrap .i64 ((List.length a0:Int) - (1:Int)))) mZ).2.2.2
  else none
noncomputable def ac1 (N:Nat) (a0:Int) (a1:Int) (kf:Int→Option aa):Option aa:=
 gH N a1 (1:Int) (1000000000000:Int) (fun Al=>
  bif (!Al) then
   kf (0:Int)
  else
   bif (!decide (a1=0)) then
    bif (!decide (a1=0)) then
     kf (Int.tmod (IntKind.wrap .i64 ((Int.tmod a0 a1)+a1)) a1)
    else none
   else none)
noncomputable def qo (N:Nat) (ae:(List Int)):Nat→(Int→Option aa)→Int→Int→Option aa
 |0,_,_,_=>none
 |ug+1,ee,ai,bz=>
  bif (decide (bz<(List.length ae:Int))) then
   bif (aQ bz (List.length ae)) then
    ac1 N (List.getD ae (Int.toNat bz) (0:Int)) (2147483647:Int) (fun Nw=>
     (qo N ae ug ee) (Int.tmod (IntKind.wrap .i64 ((IntKind.wrap .i64 ((IntKind.wrap .i64 (ai*(1000003:Int)))+Nw))+(13:Int))) (2147483647:Int)) (IntKind.wrap .i64 (bz+(1:Int))))
   else none
  else
   ee ai
noncomputable def aiY (N:Nat) (a0:(List Int)) (kf:Int→Option aa):Option aa:=
 qo N a0 N kf (11:Int) (0:Int)
noncomputable def Si (N:Nat) (a0:Int) (a1:QL) (kf:Int→Option aa):Option aa:=
 aiY N [a0,a1.1,a1.2.1,a1.2.2.1] kf
noncomputable def qp (N:Nat) (ae:(List QL)):Nat→(Option aa)→(Bool→Option aa)→Int→Int→Option aa
 |0,_,_,_,_=>none
 |ug+1,bc,fC,ai,bz=>
  bif (decide (bz<(List.length ae:Int))) then
   bif (decide ((List.length ae:Int)≤(200:Int))) then
    bif (aQ bz (List.length ae)) then
     Si N ai (List.getD ae (Int.toNat bz) mZ) (fun uD=>
      bif ((List.getD ae (Int.toNat bz) mZ).1 != (IntKind.wrap .i64 (bz+(1:Int)))) then
       fC false
      else
       gH N (List.getD ae (Int.toNat bz) mZ).2.1 (1:Int) (9:Int) (fun NN=>
        bif (!NN) then
         fC false
        else
         gH N (List.getD ae (Int.toNat bz) mZ).2.2.1 (0:Int) (99:Int) (fun xH=>
          bif (!xH) then
           fC false
          else
           bif ((List.getD ae (Int.toNat bz) mZ).2.2.2 != uD) then
            fC false
           else
            (qp N ae ug bc fC) uD (IntKind.wrap .i64 (bz+(1:Int))))))
    else none
   else
    bc
  else
   bc
noncomputable def Sj (N:Nat) (a0:(List QL)) (kf:Bool→Option aa):Option aa:=
 qp N a0 N (kf (decide ((List.length a0:Int)≤(200:Int)))) kf (0:Int) (0:Int)
noncomputable def Y8 (N:Nat) (a0:(List QL)) (a1:Int) (a2:Int) (kf:(List QL)→Bool→Option aa):Option aa:=
 arb N a0 (fun acy=>
  Si N acy ((IntKind.wrap .i64 ((List.length a0:Int)+(1:Int))),(a1,(a2,(0:Int)))) (fun xC=>
   bif (decide ((List.length ([]:(List QL))+List.length a0)*4≤4398046511104)) then
    bif (decide ((List.length (([]:(List QL))++a0)+List.length [((IntKind.wrap .i64 ((List.length a0:Int)+(1:Int))),(a1,(a2,xC)))])*4≤4398046511104)) then
     Sj N ((([]:(List QL))++a0)++[((IntKind.wrap .i64 ((List.length a0:Int)+(1:Int))),(a1,(a2,xC)))]) (fun acV=>
      bif (!acV) then
       bif (decide ((List.length ([]:(List QL))+List.length a0)*4≤4398046511104)) then
        kf (([]:(List QL))++a0) false
       else none
      else
       kf ((([]:(List QL))++a0)++[((IntKind.wrap .i64 ((List.length a0:Int)+(1:Int))),(a1,(a2,xC)))]) true)
    else none
   else none))
noncomputable def qq (N:Nat) (ae:(List QT)):Nat→(Int→Option aa)→Int→Int→Option aa
 |0,_,_,_=>none
 |ug+1,ee,ai,bz=>
  bif (decide (bz<(List.length ae:Int))) then
   uh N ae (fun ac2=>
    bif ac2 then
     bif (aQ bz (List.length ae)) then
      (qq N ae ug ee) (IntKind.wrap .i64 (ai+(List.getD ae (Int.toNat bz) aj).2.2.1)) (IntKind.wrap .i64 (bz+(1:Int)))
     else none
    else
     ee ai)
  else
   ee ai
noncomputable def aiZ (N:Nat) (a0:(List QT)) (kf:Int→Option aa):Option aa:=
 qq N a0 N kf (0:Int) (0:Int)
noncomputable def qs (N:Nat) (ae:(List QT)) (aA:(List bJ)):Nat→((List Int)→Option aa)→(Bool→Option aa)→(List Int)→Int→Option aa
 |0,_,_,_,_=>none
 |lI+1,bg,kI,aG,dU=>
  bif (decide (dU<(List.length aA:Int))) then
   bif (aQ dU (List.length aA)) then
    bif (aQ dU (List.length aA)) then
     Sb N ae (List.getD aA (Int.toNat dU) dm).1 (List.getD aA (Int.toNat dU) dm).2 (fun NO=>
      bif (!NO) then
       kI false
      else
       bif (aQ dU (List.length aA)) then
        vB N aG (List.getD aA (Int.toNat dU) dm).1 (fun NP=>
         bif NP then
          kI false
         else
          bif (aQ dU (List.length aA)) then
           vB N aG (List.getD aA (Int.toNat dU) dm).2 (fun NQ=>
            bif NQ then
             kI false
            else
             bif (aQ dU (List.length aA)) then
              bif (aQ dU (List.length aA)) then
               bif (decide ((List.length aG+List.length [(List.getD aA (Int.toNat dU) dm).1,(List.getD aA (Int.toNat dU) dm).2])*1≤4398046511104)) then
                (qs N ae aA lI bg kI) (aG++[(List.getD aA (Int.toNat dU) dm).1,(List.getD aA (Int.toNat dU) dm).2]) (IntKind.wrap .i64 (dU+(1:Int)))
               else none
              else none
             else none)
          else none)
       else none)
    else none
   else none
  else
   bg aG
noncomputable def ai0 (N:Nat) (a0:(List QT)) (a1:(List bJ)) (kf:Bool→Option aa):Option aa:=
 qs N a0 a1 N (fun avK=>
  uh N a0 (fun arc=>
   bif arc then
    kf ((List.length avK:Int)==(List.length a0:Int))
   else
    kf false)) kf ([]:(List Int)) (0:Int)
noncomputable def qt (ae:(List QJ)) (aA:Int):Nat→(Option aa)→(Int→Option aa)→Int→Option aa
 |0,_,_,_=>none
 |ug+1,bT,cK,aG=>
  bif (decide (aG<(List.length ae:Int))) then
   bif (aQ aG (List.length ae)) then
    bif ((List.getD ae (Int.toNat aG) cg).1==aA) then
     cK aG
    else
     (qt ae aA ug bT cK) (IntKind.wrap .i64 (aG+(1:Int)))
   else none
  else
   bT
noncomputable def Ff (N:Nat) (a0:(List QJ)) (a1:Int) (kf:Int→Option aa):Option aa:=
 qt a0 a1 N (kf (-1:Int)) kf (0:Int)
noncomputable def qu (N:Nat) (Au:(List QT)) (jU:(List QJ)) (km:(List bJ)) (jc:(List Int)):Nat→(Option aa)→(Bool→Option aa)→Int→Option aa
 |0,_,_,_=>none
 |R0+1,jD,fF,Fg=>
  bif (decide (Fg<(List.length km:Int))) then
   bif (aQ Fg (List.length jc)) then
    Ff N jU (List.getD jc (Int.toNat Fg) (0:Int)) (fun Fh=>
     bif (decide (Fh<(0:Int))) then
      fF false
     else
      bif (decide ((0:Int)≤(0:Int))&&decide ((0:Int)≤Fg)&&decide (Fg≤(List.length jc:Int))) then
       bif (aQ Fg (List.length jc)) then
        vB N (List.drop (Int.toNat (0:Int)) (List.take (Int.toNat Fg) jc)) (List.getD jc (Int.toNat Fg) (0:Int)) (fun ac3=>
         bif ac3 then
          fF false
         else
          bif (aQ Fh (List.length jU)) then
           bif (aQ Fg (List.length km)) then
            Y7 N Au (List.getD jU (Int.toNat Fh) cg) (List.getD km (Int.toNat Fg) dm) (fun Sk=>
             bif (!Sk) then
              fF false
             else
              (qu N Au jU km jc R0 jD fF) (IntKind.wrap .i64 (Fg+(1:Int))))
           else none
          else none)
       else none
      else none)
   else none
  else
   jD
noncomputable def ai1 (N:Nat) (a0:(List QT)) (a1:(List QJ)) (a2:(List bJ)) (a3:(List Int)) (kf:Bool→Option aa):Option aa:=
 bif ((List.length a3:Int) != (List.length a2:Int)) then
  kf false
 else
  Y6 N a1 (fun aE=>
   bif (!aE) then
    kf false
   else
    qu N a0 a1 a2 a3 N (kf true) kf (0:Int))
noncomputable def NR (N:Nat) (a0:QB) (kf:Bool→Option aa):Option aa:=
 gH N a0.1 (1:Int) (99:Int) (fun ER=>
  bif ER then
   gH N a0.2.1 (0:Int) (100:Int) (fun aqV=>
    bif aqV then
     gH N a0.2.2 (0:Int) (100:Int) (fun ND=>
      bif ND then
       kf (a0.2.1 != a0.2.2)
      else
       kf false)
    else
     kf false)
  else
   kf false)
noncomputable def nw (N:Nat) (lO:QC) (Fi:QB):Nat→(Option aa)→(Bool→Option aa)→Int→Option aa
 |0,_,_,_=>none
 |RX+1,qv,lP,oI=>
  bif (decide (oI<(List.length lO.2.2.2.2.1:Int))) then
   bif (aQ oI (List.length lO.2.2.2.2.1)) then
    bif (!((decide (((List.getD lO.2.2.2.2.1 (Int.toNat oI) gQ).1:Int)=Fi.1))&&((decide (((List.getD lO.2.2.2.2.1 (Int.toNat oI) gQ).2.1:Int)=Fi.2.1))&&(decide (((List.getD lO.2.2.2.2.1 (Int.toNat oI) gQ).2.2:Int)=Fi.2.2))))) then
     bif (aQ oI (List.length lO.2.2.2.2.1)) then
      NR N (List.getD lO.2.2.2.2.1 (Int.toNat oI) gQ) (fun Sl=>
       bif (!Sl) then
        lP false
       else
        bif (aQ oI (List.length lO.2.2.2.2.1)) then
         bif (aQ oI (List.length lO.2.2.2.1)) then
          bif ((List.getD lO.2.2.2.2.1 (Int.toNat oI) gQ).1 != (List.getD lO.2.2.2.1 (Int.toNat oI) (0:Int))) then
           lP false
          else
           (nw N lO Fi RX qv lP) (IntKind.wrap .i64 (oI+(1:Int)))
         else none
        else none)
     else none
    else
     (nw N lO Fi RX qv lP) (IntKind.wrap .i64 (oI+(1:Int)))
   else none
  else
   qv
noncomputable def Dq (N:Nat) (a0:QC) (kf:Bool→Option aa):Option aa:=
 nw N a0 ((0:Int),((0:Int),(0:Int))) N (kf true) kf (0:Int)
noncomputable def Sm (N:Nat) (a0:QC) (kf:Bool→Option aa):Option aa:=
 uh N a0.1 (fun EP=>
  bif (!EP) then
   kf false
  else
   Y6 N a0.2.1 (fun NF=>
    bif (!NF) then
     kf false
    else
     Sj N a0.2.2.2.2.2.1 (fun EW=>
      bif (!EW) then
       kf false
      else
       bif ((List.length a0.2.2.2.1:Int) != (List.length a0.2.2.1:Int)) then
        kf false
       else
        bif ((List.length a0.2.2.2.2.1:Int) != (List.length a0.2.2.1:Int)) then
         kf false
        else
         gH N a0.2.2.2.2.2.2 (0:Int) (1000:Int) (fun avL=>
          bif (!avL) then
           kf false
          else
           aiZ N a0.1 (fun avM=>
            bif (avM != a0.2.2.2.2.2.2) then
             kf false
            else
             bif (decide ((List.length a0.2.2.1:Int)>(0:Int))) then
              ai0 N a0.1 a0.2.2.1 (fun avN=>
               bif (!avN) then
                kf false
               else
                ai1 N a0.1 a0.2.1 a0.2.2.1 a0.2.2.2.1 (fun avO=>
                 bif (!avO) then
                  kf false
                 else
                  Dq N a0 kf))
             else
              Dq N a0 kf)))))
noncomputable def Y9 (N:Nat) (a0:QC) (a1:QC) (a2:Bool) (a3:Int) (a4:Int) (kf:QC→Bool→Option aa):Option aa:=
 Y8 N a0.2.2.2.2.2.1 a3 a4 (fun apa xC=>
  bif (!a2) then
   R9 N a0 (fun Cm=>
    kf Cm false)
  else
   bif (!xC) then
    R9 N a0 (fun Cm=>
     kf Cm false)
   else
    Sm N a0 (fun avP=>
     bif (!avP) then
      R9 N a0 (fun Cm=>
       kf Cm false)
     else
      Sm N (a1.1,(a1.2.1,(a1.2.2.1,(a1.2.2.2.1,(a1.2.2.2.2.1,(apa,a1.2.2.2.2.2.2)))))) (fun avQ=>
       bif (!avQ) then
        R9 N a0 (fun avR=>
         kf avR false)
       else
        kf (a1.1,(a1.2.1,(a1.2.2.1,(a1.2.2.2.1,(a1.2.2.2.2.1,(apa,a1.2.2.2.2.2.2)))))) true)))
noncomputable def S21 (N:Nat) (a0:QC) (kf:QC→Bool→Option aa):Option aa:=
 R9 N a0 (fun dO=>
  S91 N a0.1 (fun cG ND=>
   S92 N a0.1 a0.2.1 cG (fun H9 uD=>
    bif (decide ((List.length cG:Int)=(List.length cG:Int))&&decide ((0:Int)≤(List.length cG:Int))&&decide ((List.length cG:Int)≤1099511627776)) then
     bif ND then
      bif uD then
       S94 N a0 (fun avS=>
        bif (!avS) then
         Y9 N a0 (dO.1,(dO.2.1,(cG,(H9,((List.replicate (Int.toNat (List.length cG:Int)) ((0:Int),((0:Int),(0:Int)))),dO.2.2.2.2.2))))) (decide ((List.length a0.1:Int)>(0:Int))) (3:Int) (0:Int) kf
        else
         Y9 N a0 (dO.1,(dO.2.1,(cG,(H9,((List.replicate (Int.toNat (List.length cG:Int)) ((0:Int),((0:Int),(0:Int)))),dO.2.2.2.2.2))))) false (3:Int) (0:Int) kf)
      else
       Y9 N a0 (dO.1,(dO.2.1,(cG,(H9,((List.replicate (Int.toNat (List.length cG:Int)) ((0:Int),((0:Int),(0:Int)))),dO.2.2.2.2.2))))) false (3:Int) (0:Int) kf
     else
      Y9 N a0 (dO.1,(dO.2.1,(cG,(H9,((List.replicate (Int.toNat (List.length cG:Int)) ((0:Int),((0:Int),(0:Int)))),dO.2.2.2.2.2))))) false (3:Int) (0:Int) kf
    else none)))
noncomputable def nx (fj:QC) (bz:QB):Nat→((List Int)→Option aa)→(List Int)→Int→Option aa
 |0,_,_,_=>none
 |lI+1,iM,ai,lQ=>
  bif (decide (lQ<(List.length fj.2.2.2.2.1:Int))) then
   bif (aQ lQ (List.length fj.2.2.2.2.1)) then
    bif ((decide (((List.getD fj.2.2.2.2.1 (Int.toNat lQ) gQ).1:Int)=bz.1))&&((decide (((List.getD fj.2.2.2.2.1 (Int.toNat lQ) gQ).2.1:Int)=bz.2.1))&&(decide (((List.getD fj.2.2.2.2.1 (Int.toNat lQ) gQ).2.2:Int)=bz.2.2)))) then
     bif (decide ((List.length ai+List.length [lQ])*1≤4398046511104)) then
      (nx fj bz lI iM) (ai++[lQ]) (IntKind.wrap .i64 (lQ+(1:Int)))
     else none
    else
     (nx fj bz lI iM) ai (IntKind.wrap .i64 (lQ+(1:Int)))
   else none
  else
   iM ai
noncomputable def ai2 (N:Nat) (a0:QC) (kf:(List Int)→Option aa):Option aa:=
 nx a0 ((0:Int),((0:Int),(0:Int))) N kf ([]:(List Int)) (0:Int)
noncomputable def ny (N:Nat) (ae:(List QB)):Nat→(Option aa)→(Bool→Option aa)→Int→Option aa
 |0,_,_,_=>none
 |n_3+1,bT,cK,ai=>
  bif (decide (ai<(List.length ae:Int))) then
   bif (aQ ai (List.length ae)) then
    NR N (List.getD ae (Int.toNat ai) gQ) (fun NS=>
     bif (!NS) then
      cK false
     else
      bif (decide (ai>(0:Int))) then
       bif (aQ (IntKind.wrap .i64 (ai - (1:Int))) (List.length ae)) then
        bif (aQ ai (List.length ae)) then
         bif (decide ((List.getD ae (Int.toNat (IntKind.wrap .i64 (ai - (1:Int)))) gQ).1≥(List.getD ae (Int.toNat ai) gQ).1)) then
          cK false
         else
          (ny N ae n_3 bT cK) (IntKind.wrap .i64 (ai+(1:Int)))
        else none
       else none
      else
       (ny N ae n_3 bT cK) (IntKind.wrap .i64 (ai+(1:Int))))
   else none
  else
   bT
noncomputable def Sn (N:Nat) (a0:(List QB)) (kf:Bool→Option aa):Option aa:=
 ny N a0 N (kf (decide ((List.length a0:Int)≤(9:Int)))) kf (0:Int)
noncomputable def Y' (N:Nat) (a0:QB) (kf:Int→Option aa):Option aa:=
 bif (decide (a0.2.1>a0.2.2)) then
  kf (1:Int)
 else
  kf (2:Int)
noncomputable def nz (N:Nat) (ae:(List QB)) (aA:Int):Nat→(Int→Option aa)→Int→Int→Option aa
 |0,_,_,_=>none
 |lI+1,bg,aG,dU=>
  bif (decide (dU<(List.length ae:Int))) then
   Sn N ae (fun NT=>
    bif NT then
     bif (aQ dU (List.length ae)) then
      Y' N (List.getD ae (Int.toNat dU) gQ) (fun xA=>
       bif (xA==aA) then
        (nz N ae aA lI bg) (IntKind.wrap .i64 (aG+(1:Int))) (IntKind.wrap .i64 (dU+(1:Int)))
       else
        (nz N ae aA lI bg) aG (IntKind.wrap .i64 (dU+(1:Int))))
     else none
    else
     bg aG)
  else
   bg aG
noncomputable def ac4 (N:Nat) (a0:(List QB)) (a1:Int) (kf:Int→Option aa):Option aa:=
 nz N a0 a1 N kf (0:Int) (0:Int)
noncomputable def xI (N:Nat) (ae:(List QB)) (aA:Int):Nat→(Int→Option aa)→Int→Int→Option aa
 |0,_,_,_=>none
 |lI+1,bc,aG,dU=>
  bif (decide (dU<(List.length ae:Int))) then
   Sn N ae (fun NT=>
    bif NT then
     bif (aA==(1:Int)) then
      bif (aQ dU (List.length ae)) then
       (xI N ae aA lI bc) (IntKind.wrap .i64 (aG+(List.getD ae (Int.toNat dU) gQ).2.1)) (IntKind.wrap .i64 (dU+(1:Int)))
      else none
     else
      bif (aA==(2:Int)) then
       bif (aQ dU (List.length ae)) then
        (xI N ae aA lI bc) (IntKind.wrap .i64 (aG+(List.getD ae (Int.toNat dU) gQ).2.2)) (IntKind.wrap .i64 (dU+(1:Int)))
       else none
      else
       (xI N ae aA lI bc) aG (IntKind.wrap .i64 (dU+(1:Int)))
    else
     bc aG)
  else
   bc aG
noncomputable def ard (N:Nat) (a0:(List QB)) (a1:Int) (kf:Int→Option aa):Option aa:=
 xI N a0 a1 N kf (0:Int) (0:Int)
noncomputable def Vz (N:Nat) (a0:(List QB)) (kf:Int→Option aa) (avT:Int):Option aa:=
 bif (decide (avT>(0:Int))) then
  kf (1:Int)
 else
  bif (decide (avT<(0:Int))) then
   kf (2:Int)
  else
   bif (aQ (0:Int) (List.length a0)) then
    Y' N (List.getD a0 (Int.toNat (0:Int)) gQ) kf
   else none
noncomputable def Za (N:Nat) (a0:(List QB)) (kf:Int→Option aa):Option aa:=
 bif ((List.length a0:Int)==(0:Int)) then
  kf (0:Int)
 else
  Sn N a0 (fun iI=>
   bif (!iI) then
    kf (0:Int)
   else
    ac4 N a0 (1:Int) (fun gg=>
     ac4 N a0 (2:Int) (fun apb=>
      bif ((IntKind.wrap .i64 (gg - apb))==(0:Int)) then
       ard N a0 (1:Int) (fun avU=>
        ard N a0 (2:Int) (fun avV=>
         Vz N a0 kf (IntKind.wrap .i64 (avU - avV))))
      else
       Vz N a0 kf (IntKind.wrap .i64 (gg - apb)))))
noncomputable def Dr (N:Nat) (a0:(List QT)) (kf:(List QT)→Bool→Option aa) (ac5:(List QT)):Option aa:=
 uh N ac5 (fun ai3=>
  bif (!ai3) then
   Fb N a0 (fun ai4=>
    kf ai4 false)
  else
   kf ac5 true)
noncomputable def Zb (N:Nat) (a0:(List QT)) (a1:Int) (a2:Int) (a3:Int) (a4:Int) (a5:Int) (kf:(List QT)→Bool→Option aa):Option aa:=
 Fb N a0 (fun aE=>
  vA N a0 a1 (fun ab=>
   vA N a0 a2 (fun aD=>
    uh N a0 (fun E4=>
     bif (!E4) then
      kf aE false
     else
      bif (decide (ab<(0:Int))) then
       kf aE false
      else
       bif (decide (aD<(0:Int))) then
        kf aE false
       else
        bif (ab==aD) then
         kf aE false
        else
         gH N a3 (1:Int) (2:Int) (fun acR=>
          bif (!acR) then
           kf aE false
          else
           gH N a4 (0:Int) (1000:Int) (fun acS=>
            bif (!acS) then
             kf aE false
            else
             gH N a5 (0:Int) (1000:Int) (fun acT=>
              bif (!acT) then
               kf aE false
              else
               bif (aQ ab (List.length aE)) then
                bif (decide ((List.length (List.getD aE (Int.toNat ab) aj).2.2.2.2.2+List.length [a2])*1≤4398046511104)) then
                 bif (aQ ab (List.length aE)) then
                  bif (Nat.beq (Int.toNat ab) (Int.toNat ab)) then
                   bif (aQ aD (List.length (List.set aE (Int.toNat ab) ((List.getD aE (Int.toNat ab) aj).1,((List.getD aE (Int.toNat ab) aj).2.1,((List.getD aE (Int.toNat ab) aj).2.2.1,((List.getD aE (Int.toNat ab) aj).2.2.2.1,((List.getD aE (Int.toNat ab) aj).2.2.2.2.1,((List.getD aE (Int.toNat ab) aj).2.2.2.2.2++[a2]))))))))) then
                    bif (decide ((List.length (List.getD (List.set aE (Int.toNat ab) ((List.getD aE (Int.toNat ab) aj).1,((List.getD aE (Int.toNat ab) aj).2.1,((List.getD aE (Int.toNat ab) aj).2.2.1,((List.getD aE (Int.toNat ab) aj).2.2.2.1,((List.getD aE (Int.toNat ab) aj).2.2.2.2.1,((List.getD aE (Int.toNat ab) aj).2.2.2.2.2++[a2]))))))) (Int.toNat aD) aj).2.2.2.2.2+List.length [a1])*1≤4398046511104)) then
                     bif (aQ aD (List.length (List.set aE (Int.toNat ab) ((List.getD aE (Int.toNat ab) aj).1,((List.getD aE (Int.toNat ab) aj).2.1,((List.getD aE (Int.toNat ab) aj).2.2.1,((List.getD aE (Int.toNat ab) aj).2.2.2.1,((List.getD aE (Int.toNat ab) aj).2.2.2.2.1,((List.getD aE (Int.toNat ab) aj).2.2.2.2.2++[a2]))))))))) then
                      bif (Nat.beq (Int.toNat aD) (Int.toNat aD)) then
                       share (List.set (List.set aE (Int.toNat ab) ((List.getD aE (Int.toNat ab) aj).1,((List.getD aE (Int.toNat ab) aj).2.1,((List.getD aE (Int.toNat ab) aj).2.2.1,((List.getD aE (Int.toNat ab) aj).2.2.2.1,((List.getD aE (Int.toNat ab) aj).2.2.2.2.1,((List.getD aE (Int.toNat ab) aj).2.2.2.2.2++[a2]))))))) (Int.toNat aD) ((List.getD (List.set aE (Int.toNat ab) ((List.getD aE (Int.toNat ab) aj).1,((List.getD aE (Int.toNat ab) aj).2.1,((List.getD aE (Int.toNat ab) aj).2.2.1,((List.getD aE (Int.toNat ab) aj).2.2.2.1,((List.getD aE (Int.toNat ab) aj).2.2.2.2.1,((List.getD aE (Int.toNat ab) aj).2.2.2.2.2++[a2]))))))) (Int.toNat aD) aj).1,((List.getD (List.set aE (Int.toNat ab) ((List.getD aE (Int.toNat ab) aj).1,((List.getD aE (Int.toNat ab) aj).2.1,((List.getD aE (Int.toNat ab) aj).2.2.1,((List.getD aE (Int.toNat ab) aj).2.2.2.1,((List.getD aE (Int.toNat ab) aj).2.2.2.2.1,((List.getD aE (Int.toNat ab) aj).2.2.2.2.2++[a2]))))))) (Int.toNat aD) aj).2.1,((List.getD (List.set aE (Int.toNat ab) ((List.getD aE (Int.toNat ab) aj).1,((List.getD aE (Int.toNat ab) aj).2.1,((List.getD aE (Int.toNat ab) aj).2.2.1,((List.getD aE (Int.toNat ab) aj).2.2.2.1,((List.getD aE (Int.toNat ab) aj).2.2.2.2.1,((List.getD aE (Int.toNat ab) aj).2.2.2.2.2++[a2]))))))) (Int.toNat aD) aj).2.2.1,((List.getD (List.set aE (Int.toNat ab) ((List.getD aE (Int.toNat ab) aj).1,((List.getD aE (Int.toNat ab) aj).2.1,((List.getD aE (Int.toNat ab) aj).2.2.1,((List.getD aE (Int.toNat ab) aj).2.2.2.1,((List.getD aE (Int.toNat ab) aj).2.2.2.2.1,((List.getD aE (Int.toNat ab) aj).2.2.2.2.2++[a2]))))))) (Int.toNat aD) aj).2.2.2.1,((List.getD (List.set aE (Int.toNat ab) ((List.getD aE (Int.toNat ab) aj).1,((List.getD aE (Int.toNat ab) aj).2.1,((List.getD aE (Int.toNat ab) aj).2.2.1,((List.getD aE (Int.toNat ab) aj).2.2.2.1,((List.getD aE (Int.toNat ab) aj).2.2.2.2.1,((List.getD aE (Int.toNat ab) aj).2.2.2.2.2++[a2]))))))) (Int.toNat aD) aj).2.2.2.2.1,((List.getD (List.set aE (Int.toNat ab) ((List.getD aE (Int.toNat ab) aj).1,((List.getD aE (Int.toNat ab) aj).2.1,((List.getD aE (Int.toNat ab) aj).2.2.1,((List.getD aE (Int.toNat ab) aj).2.2.2.1,((List.getD aE (Int.toNat ab) aj).2.2.2.2.1,((List.getD aE (Int.toNat ab) aj).2.2.2.2.2++[a2]))))))) (Int.toNat aD) aj).2.2.2.2.2++[a1]))))))) (fun aB=>
                        bif (aQ ab (List.length aB)) then
                         bif (aQ ab (List.length aB)) then
                          bif (aQ ab (List.length (List.set aB (Int.toNat ab) ((List.getD aB (Int.toNat ab) aj).1,((List.getD aB (Int.toNat ab) aj).2.1,((List.getD aB (Int.toNat ab) aj).2.2.1,((List.getD aB (Int.toNat ab) aj).2.2.2.1,((IntKind.wrap .i64 ((List.getD aB (Int.toNat ab) aj).2.2.2.2.1+(1:Int))),(List.getD aB (Int.toNat ab) aj).2.2.2.2.2)))))))) then
                           bif (aQ ab (List.length (List.set aB (Int.toNat ab) ((List.getD aB (Int.toNat ab) aj).1,((List.getD aB (Int.toNat ab) aj).2.1,((List.getD aB (Int.toNat ab) aj).2.2.1,((List.getD aB (Int.toNat ab) aj).2.2.2.1,((IntKind.wrap .i64 ((List.getD aB (Int.toNat ab) aj).2.2.2.2.1+(1:Int))),(List.getD aB (Int.toNat ab) aj).2.2.2.2.2)))))))) then
                            share (List.set (List.set aB (Int.toNat ab) ((List.getD aB (Int.toNat ab) aj).1,((List.getD aB (Int.toNat ab) aj).2.1,((List.getD aB (Int.toNat ab) aj).2.2.1,((List.getD aB (Int.toNat ab) aj).2.2.2.1,((IntKind.wrap .i64 ((List.getD aB (Int.toNat ab) aj).2.2.2.2.1+(1:Int))),(List.getD aB (Int.toNat ab) aj).2.2.2.2.2)))))) (Int.toNat ab) ((List.getD (List.set aB (Int.toNat ab) ((List.getD aB (Int.toNat ab) aj).1,((List.getD aB (Int.toNat ab) aj).2.1,((List.getD aB (Int.toNat ab) aj).2.2.1,((List.getD aB (Int.toNat ab) aj).2.2.2.1,((IntKind.wrap .i64 ((List.getD aB (Int.toNat ab) aj).2.2.2.2.1+(1:Int))),(List.getD aB (Int.toNat ab) aj).2.2.2.2.2)))))) (Int.toNat ab) aj).1,((List.getD (List.set aB (Int.toNat ab) ((List.getD aB (Int.toNat ab) aj).1,((List.getD aB (Int.toNat ab) aj).2.1,((List.getD aB (Int.toNat ab) aj).2.2.1,((List.getD aB (Int.toNat ab) aj).2.2.2.1,((IntKind.wrap .i64 ((List.getD aB (Int.toNat ab) aj).2.2.2.2.1+(1:Int))),(List.getD aB (Int.toNat ab) aj).2.2.2.2.2)))))) (Int.toNat ab) aj).2.1,((List.getD (List.set aB (Int.toNat ab) ((List.getD aB (Int.toNat ab) aj).1,((List.getD aB (Int.toNat ab) aj).2.1,((List.getD aB (Int.toNat ab) aj).2.2.1,((List.getD aB (Int.toNat ab) aj).2.2.2.1,((IntKind.wrap .i64 ((List.getD aB (Int.toNat ab) aj).2.2.2.2.1+(1:Int))),(List.getD aB (Int.toNat ab) aj).2.2.2.2.2)))))) (Int.toNat ab) aj).2.2.1,((IntKind.wrap .i64 ((List.getD (List.set aB (Int.toNat ab) ((List.getD aB (Int.toNat ab) aj).1,((List.getD aB (Int.toNat ab) aj).2.1,((List.getD aB (Int.toNat ab) aj).2.2.1,((List.getD aB (Int.toNat ab) aj).2.2.2.1,((IntKind.wrap .i64 ((List.getD aB (Int.toNat ab) aj).2.2.2.2.1+(1:Int))),(List.getD aB (Int.toNat ab) aj).2.2.2.2.2)))))) (Int.toNat ab) aj).2.2.2.1+a4)),(List.getD (List.set aB (Int.toNat ab) ((List.getD aB (Int.toNat ab) aj).1,((List.getD aB (Int.toNat ab) aj).2.1,((List.getD aB (Int.toNat ab) aj).2.2.1,((List.getD aB (Int.toNat ab) aj).2.2.2.1,((IntKind.wrap .i64 ((List.getD aB (Int.toNat ab) aj).2.2.2.2.1+(1:Int))),(List.getD aB (Int.toNat ab) aj).2.2.2.2.2)))))) (Int.toNat ab) aj).2.2.2.2))))) (fun aU=>
                             bif (aQ aD (List.length aU)) then
                              bif (aQ aD (List.length aU)) then
                               bif (a3==(1:Int)) then
                                bif (aQ ab (List.length (List.set aU (Int.toNat aD) ((List.getD aU (Int.toNat aD) aj).1,((List.getD aU (Int.toNat aD) aj).2.1,((List.getD aU (Int.toNat aD) aj).2.2.1,((IntKind.wrap .i64 ((List.getD aU (Int.toNat aD) aj).2.2.2.1+a5)),(List.getD aU (Int.toNat aD) aj).2.2.2.2))))))) then
                                 bif (aQ ab (List.length (List.set aU (Int.toNat aD) ((List.getD aU (Int.toNat aD) aj).1,((List.getD aU (Int.toNat aD) aj).2.1,((List.getD aU (Int.toNat aD) aj).2.2.1,((IntKind.wrap .i64 ((List.getD aU (Int.toNat aD) aj).2.2.2.1+a5)),(List.getD aU (Int.toNat aD) aj).2.2.2.2))))))) then
                                  share (List.set (List.set aU (Int.toNat aD) ((List.getD aU (Int.toNat aD) aj).1,((List.getD aU (Int.toNat aD) aj).2.1,((List.getD aU (Int.toNat aD) aj).2.2.1,((IntKind.wrap .i64 ((List.getD aU (Int.toNat aD) aj).2.2.2.1+a5)),(List.getD aU (Int.toNat aD) aj).2.2.2.2))))) (Int.toNat ab) ((List.getD (List.set aU (Int.toNat aD) ((List.getD aU (Int.toNat aD) aj).1,((List.getD aU (Int.toNat aD) aj).2.1,((List.getD aU (Int.toNat aD) aj).2.2.1,((IntKind.wrap .i64 ((List.getD aU (Int.toNat aD) aj).2.2.2.1+a5)),(List.getD aU (Int.toNat aD) aj).2.2.2.2))))) (Int.toNat ab) aj).1,((List.getD (List.set aU (Int.toNat aD) ((List.getD aU (Int.toNat aD) aj).1,((List.getD aU (Int.toNat aD) aj).2.1,((List.getD aU (Int.toNat aD) aj).2.2.1,((IntKind.wrap .i64 ((List.getD aU (Int.toNat aD) aj).2.2.2.1+a5)),(List.getD aU (Int.toNat aD) aj).2.2.2.2))))) (Int.toNat ab) aj).2.1,((IntKind.wrap .i64 ((List.getD (List.set aU (Int.toNat aD) ((List.getD aU (Int.toNat aD) aj).1,((List.getD aU (Int.toNat aD) aj).2.1,((List.getD aU (Int.toNat aD) aj).2.2.1,((IntKind.wrap .i64 ((List.getD aU (Int.toNat aD) aj).2.2.2.1+a5)),(List.getD aU (Int.toNat aD) aj).2.2.2.2))))) (Int.toNat ab) aj).2.2.1+(1:Int))),(List.getD (List.set aU (Int.toNat aD) ((List.getD aU (Int.toNat aD) aj).1,((List.getD aU (Int.toNat aD) aj).2.1,((List.getD aU (Int.toNat aD) aj).2.2.1,((IntKind.wrap .i64 ((List.getD aU (Int.toNat aD) aj).2.2.2.1+a5)),(List.getD aU (Int.toNat aD) aj).2.2.2.2))))) (Int.toNat ab) aj).2.2.2)))) (fun R6=>
                                   Dr N a0 kf R6)
                                 else none
                                else none
                               else
                                bif (aQ aD (List.length (List.set aU (Int.toNat aD) ((List.getD aU (Int.toNat aD) aj).1,((List.getD aU (Int.toNat aD) aj).2.1,((List.getD aU (Int.toNat aD) aj).2.2.1,((IntKind.wrap .i64 ((List.getD aU (Int.toNat aD) aj).2.2.2.1+a5)),(List.getD aU (Int.toNat aD) aj).2.2.2.2))))))) then
                                 bif (aQ aD (List.length (List.set aU (Int.toNat aD) ((List.getD aU (Int.toNat aD) aj).1,((List.getD aU (Int.toNat aD) aj).2.1,((List.getD aU (Int.toNat aD) aj).2.2.1,((IntKind.wrap .i64 ((List.getD aU (Int.toNat aD) aj).2.2.2.1+a5)),(List.getD aU (Int.toNat aD) aj).2.2.2.2))))))) then
                                  share (List.set (List.set aU (Int.toNat aD) ((List.getD aU (Int.toNat aD) aj).1,((List.getD aU (Int.toNat aD) aj).2.1,((List.getD aU (Int.toNat aD) aj).2.2.1,((IntKind.wrap .i64 ((List.getD aU (Int.toNat aD) aj).2.2.2.1+a5)),(List.getD aU (Int.toNat aD) aj).2.2.2.2))))) (Int.toNat aD) ((List.getD (List.set aU (Int.toNat aD) ((List.getD aU (Int.toNat aD) aj).1,((List.getD aU (Int.toNat aD) aj).2.1,((List.getD aU (Int.toNat aD) aj).2.2.1,((IntKind.wrap .i64 ((List.getD aU (Int.toNat aD) aj).2.2.2.1+a5)),(List.getD aU (Int.toNat aD) aj).2.2.2.2))))) (Int.toNat aD) aj).1,((List.getD (List.set aU (Int.toNat aD) ((List.getD aU (Int.toNat aD) aj).1,((List.getD aU (Int.toNat aD) aj).2.1,((List.getD aU (Int.toNat aD) aj).2.2.1,((IntKind.wrap .i64 ((List.getD aU (Int.toNat aD) aj).2.2.2.1+a5)),(List.getD aU (Int.toNat aD) aj).2.2.2.2))))) (Int.toNat aD) aj).2.1,((IntKind.wrap .i64 ((List.getD (List.set aU (Int.toNat aD) ((List.getD aU (Int.toNat aD) aj).1,((List.getD aU (Int.toNat aD) aj).2.1,((List.getD aU (Int.toNat aD) aj).2.2.1,((IntKind.wrap .i64 ((List.getD aU (Int.toNat aD) aj).2.2.2.1+a5)),(List.getD aU (Int.toNat aD) aj).2.2.2.2))))) (Int.toNat aD) aj).2.2.1+(1:Int))),(List.getD (List.set aU (Int.toNat aD) ((List.getD aU (Int.toNat aD) aj).1,((List.getD aU (Int.toNat aD) aj).2.1,((List.getD aU (Int.toNat aD) aj).2.2.1,((IntKind.wrap .i64 ((List.getD aU (Int.toNat aD) aj).2.2.2.1+a5)),(List.getD aU (Int.toNat aD) aj).2.2.2.2))))) (Int.toNat aD) aj).2.2.2)))) (fun are=>
                                   Dr N a0 kf are)
                                 else none
                                else none
                              else none
                             else none)
                           else none
                          else none
                         else none
                        else none)
                      else none
                     else none
                    else none
                   else none
                  else none
                 else none
                else none
               else none)))))))
noncomputable def tE (a0:(List Int)) (a1:Int) (kf:(List Int)→Option aa) (mJ:Int):Option aa:=
 bif (decide ((0:Int)≤(0:Int))&&decide ((0:Int)≤mJ)&&decide (mJ≤(List.length a0:Int))) then
  bif (decide ((0:Int)≤mJ)&&decide (mJ≤(List.length a0:Int))&&decide ((List.length a0:Int)≤(List.length a0:Int))) then
   bif (decide ((List.length ([]:(List Int))+List.length (List.drop (Int.toNat (0:Int)) (List.take (Int.toNat mJ) a0)))*1≤4398046511104)) then
    bif (decide ((List.length (([]:(List Int))++(List.drop (Int.toNat (0:Int)) (List.take (Int.toNat mJ) a0)))+List.length [a1])*1≤4398046511104)) then
     bif (decide ((List.length ((([]:(List Int))++(List.drop (Int.toNat (0:Int)) (List.take (Int.toNat mJ) a0)))++[a1])+List.length (List.drop (Int.toNat mJ) (List.take (Int.toNat (List.length a0:Int)) a0)))*1≤4398046511104)) then
      kf (((([]:(List Int))++(List.drop (Int.toNat (0:Int)) (List.take (Int.toNat mJ) a0)))++[a1])++(List.drop (Int.toNat mJ) (List.take (Int.toNat (List.length a0:Int)) a0)))
     else none
    else none
   else none
  else none
 else none
noncomputable def qw (ae:(List Int)) (aA:Int):Nat→(Int→Option aa)→Int→Option aa
 |0,_,_=>none
 |ug+1,bT,aG=>
  bif (decide (aG<(List.length ae:Int))) then
   bif (aQ aG (List.length ae)) then
    bif (decide ((List.getD ae (Int.toNat aG) (0:Int))<aA)) then
     (qw ae aA ug bT) (IntKind.wrap .i64 (aG+(1:Int)))
    else
     bT aG
   else none
  else
   bT aG
noncomputable def sD (N:Nat) (a0:(List Int)) (a1:Int) (kf:(List Int)→Option aa):Option aa:=
 qw a0 a1 N (fun mJ=>
  bif (decide (mJ<(List.length a0:Int))) then
   bif (aQ mJ (List.length a0)) then
    bif ((List.getD a0 (Int.toNat mJ) (0:Int))==a1) then
     bif (decide ((List.length ([]:(List Int))+List.length a0)*1≤4398046511104)) then
      kf (([]:(List Int))++a0)
     else none
    else
     tE a0 a1 kf mJ
   else none
  else
   tE a0 a1 kf mJ) (0:Int)
noncomputable def sE (N:Nat) (fk:QC) (ac6:QC):Nat→(QC→Bool→Option aa)→QC→Bool→Int→Option aa
 |0,_,_,_,_=>none
 |NH+1,qx,dV,xJ,mK=>
  bif (decide (mK<(List.length fk.2.2.1:Int))) then
   bif (aQ mK (List.length fk.2.2.2.2.1)) then
    bif (aQ mK (List.length fk.2.2.1)) then
     bif (aQ mK (List.length fk.2.2.1)) then
      Za N [(List.getD fk.2.2.2.2.1 (Int.toNat mK) gQ)] (fun Fj=>
       Zb N dV.1 (List.getD fk.2.2.1 (Int.toNat mK) dm).1 (List.getD fk.2.2.1 (Int.toNat mK) dm).2 Fj (List.getD fk.2.2.2.2.1 (Int.toNat mK) gQ).2.1 (List.getD fk.2.2.2.2.1 (Int.toNat mK) gQ).2.2 (fun sF pU=>
        bif xJ then
         bif (aQ mK (List.length fk.2.2.2.1)) then
          Ff N dV.2.1 (List.getD fk.2.2.2.1 (Int.toNat mK) (0:Int)) (fun fb=>
           bif (aQ fb (List.length dV.2.1)) then
            bif (aQ mK (List.length fk.2.2.1)) then
             bif (aQ mK (List.length fk.2.2.1)) then
              sD N (List.getD dV.2.1 (Int.toNat fb) cg).2.2 (List.getD fk.2.2.1 (Int.toNat mK) dm).1 (fun Fl=>
               sD N Fl (List.getD fk.2.2.1 (Int.toNat mK) dm).2 (fun xK=>
                bif (aQ fb (List.length dV.2.1)) then
                 (sE N fk ac6 NH qx) (sF,((List.set dV.2.1 (Int.toNat fb) ((List.getD dV.2.1 (Int.toNat fb) cg).1,((List.getD dV.2.1 (Int.toNat fb) cg).2.1,xK))),dV.2.2)) pU (IntKind.wrap .i64 (mK+(1:Int)))
                else none))
             else none
            else none
           else none)
         else none
        else
         bif (aQ mK (List.length fk.2.2.2.1)) then
          Ff N dV.2.1 (List.getD fk.2.2.2.1 (Int.toNat mK) (0:Int)) (fun fc=>
           bif (aQ fc (List.length dV.2.1)) then
            bif (aQ mK (List.length fk.2.2.1)) then
             bif (aQ mK (List.length fk.2.2.1)) then
              sD N (List.getD dV.2.1 (Int.toNat fc) cg).2.2 (List.getD fk.2.2.1 (Int.toNat mK) dm).1 (fun vw=>
               sD N vw (List.getD fk.2.2.1 (Int.toNat mK) dm).2 (fun xL=>
                bif (aQ fc (List.length dV.2.1)) then
                 (sE N fk ac6 NH qx) (sF,((List.set dV.2.1 (Int.toNat fc) ((List.getD dV.2.1 (Int.toNat fc) cg).1,((List.getD dV.2.1 (Int.toNat fc) cg).2.1,xL))),dV.2.2)) false (IntKind.wrap .i64 (mK+(1:Int)))
                else none))
             else none
            else none
           else none)
         else none))
     else none
    else none
   else none
  else
   qx dV xJ
noncomputable def S27 (N:Nat) (a0:QC) (kf:QC→Bool→Option aa):Option aa:=
 R9 N a0 (fun uC=>
  Sm N a0 (fun cG=>
   bif (!cG) then
    kf uC false
   else
    S94 N a0 (fun EW=>
     bif (!EW) then
      kf uC false
     else
      ai2 N a0 (fun H9=>
       bif (decide ((List.length H9:Int)>(0:Int))) then
        kf uC false
       else
        sE N a0 (([]:(List QT)),(([]:(List QJ)),(([]:(List bJ)),(([]:(List Int)),(([]:(List QB)),(([]:(List QL)),(0:Int))))))) N (fun ac7 avW=>
         Y9 N a0 (ac7.1,(ac7.2.1,(([]:(List bJ)),(([]:(List Int)),(([]:(List QB)),(ac7.2.2.2.2.2.1,(IntKind.wrap .i64 (a0.2.2.2.2.2.2+(List.length a0.2.2.1:Int))))))))) avW (5:Int) (0:Int) kf) uC true (0:Int)))))
noncomputable def nA (aA:Int) (fN:Int) (cv:QC) (xM:QC) (JA:QC):Nat→(Int→Option aa)→Int→Option aa
 |0,_,_=>none
 |n_8+1,bg,Az=>
  bif (decide (Az<(List.length cv.1:Int))) then
   bif (aQ Az (List.length cv.1)) then
    bif (decide ((List.getD cv.1 (Int.toNat Az) aj).1<aA)) then
     (nA aA fN cv xM JA n_8 bg) (IntKind.wrap .i64 (Az+(1:Int)))
    else
     bg Az
   else none
  else
   bg Az
noncomputable def ai5 (N:Nat) (a0:QC) (a1:Int) (a2:Int) (kf:QC→Bool→Option aa):Option aa:=
 R9 N a0 (fun cu=>
  nA a1 a2 a0 (([]:(List QT)),(([]:(List QJ)),(([]:(List bJ)),(([]:(List Int)),(([]:(List QB)),(([]:(List QL)),(0:Int))))))) cu N (fun oJ=>
   bif (decide ((0:Int)≤(0:Int))&&decide ((0:Int)≤oJ)&&decide (oJ≤(List.length a0.1:Int))) then
    Fb N (List.drop (Int.toNat (0:Int)) (List.take (Int.toNat oJ) a0.1)) (fun vC=>
     bif (decide ((List.length vC+List.length [(a1,(a2,((0:Int),((0:Int),((0:Int),([]:(List Int)))))))])*6≤4398046511104)) then
      bif (decide ((0:Int)≤oJ)&&decide (oJ≤(List.length a0.1:Int))&&decide ((List.length a0.1:Int)≤(List.length a0.1:Int))) then
       Fb N (List.drop (Int.toNat oJ) (List.take (Int.toNat (List.length a0.1:Int)) a0.1)) (fun Fm=>
        bif (decide ((List.length (vC++[(a1,(a2,((0:Int),((0:Int),((0:Int),([]:(List Int)))))))])+List.length Fm)*6≤4398046511104)) then
         S94 N a0 (fun arf=>
          Y9 N a0 (((vC++[(a1,(a2,((0:Int),((0:Int),((0:Int),([]:(List Int)))))))])++Fm),cu.2) (!arf) (1:Int) a1 kf)
        else none)
      else none
     else none)
   else none) (0:Int))
noncomputable def nB (aA:Int) (fN:Int) (cv:QC) (xM:QC) (JA:QC):Nat→(Int→Option aa)→Int→Option aa
 |0,_,_=>none
 |n_8+1,bg,Az=>
  bif (decide (Az<(List.length cv.2.1:Int))) then
   bif (aQ Az (List.length cv.2.1)) then
    bif (decide ((List.getD cv.2.1 (Int.toNat Az) cg).1<aA)) then
     (nB aA fN cv xM JA n_8 bg) (IntKind.wrap .i64 (Az+(1:Int)))
    else
     bg Az
   else none
  else
   bg Az
noncomputable def ai6 (N:Nat) (a0:QC) (a1:Int) (a2:Int) (kf:QC→Bool→Option aa):Option aa:=
 R9 N a0 (fun cu=>
  nB a1 a2 a0 (([]:(List QT)),(([]:(List QJ)),(([]:(List bJ)),(([]:(List Int)),(([]:(List QB)),(([]:(List QL)),(0:Int))))))) cu N (fun oJ=>
   bif (decide ((0:Int)≤(0:Int))&&decide ((0:Int)≤oJ)&&decide (oJ≤(List.length a0.2.1:Int))) then
    R8 N (List.drop (Int.toNat (0:Int)) (List.take (Int.toNat oJ) a0.2.1)) (fun vC=>
     bif (decide ((List.length vC+List.length [(a1,(a2,([]:(List Int))))])*3≤4398046511104)) then
      bif (decide ((0:Int)≤oJ)&&decide (oJ≤(List.length a0.2.1:Int))&&decide ((List.length a0.2.1:Int)≤(List.length a0.2.1:Int))) then
       R8 N (List.drop (Int.toNat oJ) (List.take (Int.toNat (List.length a0.2.1:Int)) a0.2.1)) (fun Fm=>
        bif (decide ((List.length (vC++[(a1,(a2,([]:(List Int))))])+List.length Fm)*3≤4398046511104)) then
         Y9 N a0 (cu.1,(((vC++[(a1,(a2,([]:(List Int))))])++Fm),cu.2.2)) true (2:Int) a1 kf
        else none)
      else none
     else none)
   else none) (0:Int))
noncomputable def ai7 (N:Nat) (a0:QC) (a1:Int) (a2:Int) (a3:Int) (kf:QC→Bool→Option aa):Option aa:=
 R9 N a0 (fun eB=>
  Sm N a0 (fun oA=>
   bif (!oA) then
    kf eB false
   else
    gH N a1 (0:Int) (IntKind.wrap .i64 ((List.length a0.2.2.1:Int) - (1:Int))) (fun aD=>
     bif (!aD) then
      kf eB false
     else
      bif (aQ a1 (List.length a0.2.2.2.2.1)) then
       bif (!((decide (((List.getD a0.2.2.2.2.1 (Int.toNat a1) gQ).1:Int)=(0:Int)))&&((decide (((List.getD a0.2.2.2.2.1 (Int.toNat a1) gQ).2.1:Int)=(0:Int)))&&(decide (((List.getD a0.2.2.2.2.1 (Int.toNat a1) gQ).2.2:Int)=(0:Int)))))) then
        kf eB false
       else
        bif (aQ a1 (List.length a0.2.2.2.1)) then
         bif (aQ a1 (List.length eB.2.2.2.2.1)) then
          bif (aQ a1 (List.length (List.set eB.2.2.2.2.1 (Int.toNat a1) ((List.getD a0.2.2.2.1 (Int.toNat a1) (0:Int)),(a2,a3))))) then
           bif (aQ a1 (List.length a0.2.2.2.1)) then
            NR N (List.getD (List.set eB.2.2.2.2.1 (Int.toNat a1) ((List.getD a0.2.2.2.1 (Int.toNat a1) (0:Int)),(a2,a3))) (Int.toNat a1) gQ) (fun ac0=>
             Y9 N a0 (eB.1,(eB.2.1,(eB.2.2.1,(eB.2.2.2.1,((List.set eB.2.2.2.2.1 (Int.toNat a1) ((List.getD a0.2.2.2.1 (Int.toNat a1) (0:Int)),(a2,a3))),eB.2.2.2.2.2))))) ac0 (4:Int) (List.getD a0.2.2.2.1 (Int.toNat a1) (0:Int)) kf)
           else none
          else none
         else none
        else none
      else none)))
noncomputable def vD (N:Nat) (As:QC) (cH:(List QL)) (lB:Int):Nat→(QC→Option aa)→QC→Int→Option aa
 |0,_,_,_=>none
 |R0+1,tF,aG,VA=>
  bif (decide (VA<lB)) then
   bif (aQ VA (List.length cH)) then
    I13 N aG (List.getD cH (Int.toNat VA) mZ) (fun xF ac8=>
     (vD N As cH lB R0 tF) xF (IntKind.wrap .i64 (VA+(1:Int))))
   else none
  else
   tF aG
noncomputable def I43 (N:Nat) (a0:QC) (a1:(List QL)) (kf:QC→Option aa):Option aa:=
 H5 N a0 (fun iI=>
  vD N (([]:(List QT)),(([]:(List QJ)),(([]:(List bJ)),(([]:(List Int)),(([]:(List QB)),(([]:(List QL)),(0:Int))))))) a1 (List.length a1:Int) N kf iI (0:Int))
noncomputable def qy (aA:Int) (aV:(List QL)) (cj:Int):Nat→(Int→Option aa)→Int→Int→Option aa
 |0,_,_,_=>none
 |R0+1,dA,aG,ic=>
  bif (decide (ic<cj)) then
   bif (aQ ic (List.length aV)) then
    bif ((List.getD aV (Int.toNat ic) mZ).2.1==(4:Int)) then
     bif ((List.getD aV (Int.toNat ic) mZ).2.2.1==aA) then
      (qy aA aV cj R0 dA) (IntKind.wrap .i64 (aG+(1:Int))) (IntKind.wrap .i64 (ic+(1:Int)))
     else
      (qy aA aV cj R0 dA) aG (IntKind.wrap .i64 (ic+(1:Int)))
    else
     (qy aA aV cj R0 dA) aG (IntKind.wrap .i64 (ic+(1:Int)))
   else none
  else
   dA aG
noncomputable def I49 (N:Nat) (a0:(List QL)) (a1:Int) (kf:Int→Option aa):Option aa:=
 I75 N a0 (fun iI=>
  bif (!iI) then
   kf (0:Int)
  else
   qy a1 a0 (List.length a0:Int) N kf (0:Int) (0:Int))
noncomputable def sG (bn:(List QL)) (aV:Int):Nat→((List Int)→Option aa)→(List Int)→Int→Option aa
 |0,_,_,_=>none
 |rD+1,vE,ai,cj=>
  bif (decide (cj<aV)) then
   bif (aQ cj (List.length bn)) then
    bif ((List.getD bn (Int.toNat cj) mZ).2.1==(2:Int)) then
     bif (decide ((List.length ai+List.length [(List.getD bn (Int.toNat cj) mZ).2.2.1])*1≤4398046511104)) then
      (sG bn aV rD vE) (ai++[(List.getD bn (Int.toNat cj) mZ).2.2.1]) (IntKind.wrap .i64 (cj+(1:Int)))
     else none
    else
     (sG bn aV rD vE) ai (IntKind.wrap .i64 (cj+(1:Int)))
   else none
  else
   vE ai
noncomputable def I51 (N:Nat) (a0:(List QL)) (kf:(List Int)→Option aa):Option aa:=
 I75 N a0 (fun An=>
  bif (!An) then
   kf ([]:(List Int))
  else
   sG a0 (List.length a0:Int) N (fun ac9=>
    NL N ac9 (fun avX=>
     Y4 N avX kf)) ([]:(List Int)) (0:Int))
noncomputable def vF (ae:(List Int)) (aA:(List Int)):Nat→(Option aa)→(Bool→Option aa)→Int→Option aa
 |0,_,_,_=>none
 |ug+1,AA,AB,aG=>
  bif (decide (aG<(List.length ae:Int))) then
   bif (aQ aG (List.length ae)) then
    bif (aQ aG (List.length aA)) then
     bif ((List.getD ae (Int.toNat aG) (0:Int)) != (List.getD aA (Int.toNat aG) (0:Int))) then
      AB false
     else
      (vF ae aA ug AA AB) (IntKind.wrap .i64 (aG+(1:Int)))
    else none
   else none
  else
   AA
noncomputable def L50 (N:Nat) (a0:(List Int)) (a1:(List Int)) (kf:Bool→Option aa):Option aa:=
 bif ((List.length a0:Int) != (List.length a1:Int)) then
  kf false
 else
  vF a0 a1 N (kf true) kf (0:Int)
noncomputable def sH (fj:Int) (fY:(List QL)) (iJ:Int):Nat→(Int→Option aa)→Int→Int→Option aa
 |0,_,_,_=>none
 |rD+1,bc,bX,eR=>
  bif (decide (eR<iJ)) then
   bif (aQ eR (List.length fY)) then
    bif ((List.getD fY (Int.toNat eR) mZ).2.1==fj) then
     (sH fj fY iJ rD bc) (IntKind.wrap .i64 (bX+(1:Int))) (IntKind.wrap .i64 (eR+(1:Int)))
    else
     (sH fj fY iJ rD bc) bX (IntKind.wrap .i64 (eR+(1:Int)))
   else none
  else
   bc bX
noncomputable def I52 (N:Nat) (a0:(List QL)) (a1:Int) (kf:Int→Option aa):Option aa:=
 sH a1 a0 (List.length a0:Int) N kf (0:Int) (0:Int)
noncomputable def I53 (N:Nat) (a0:(List QL)) (kf:Int→Option aa):Option aa:=
 I75 N a0 (fun aw0=>
  bif (!aw0) then
   kf (0:Int)
  else
   I52 N a0 (5:Int) kf)
noncomputable def nC (fj:Int) (e9:(List Int)) (cH:Int):Nat→((List Int)→Option aa)→(List Int)→Int→Option aa
 |0,_,_,_=>none
 |rD+1,bc,bX,lB=>
  bif (decide (lB<cH)) then
   bif (aQ lB (List.length e9)) then
    bif ((List.getD e9 (Int.toNat lB) (0:Int)) != fj) then
     bif (decide ((List.length bX+List.length [(List.getD e9 (Int.toNat lB) (0:Int))])*1≤4398046511104)) then
      (nC fj e9 cH rD bc) (bX++[(List.getD e9 (Int.toNat lB) (0:Int))]) (IntKind.wrap .i64 (lB+(1:Int)))
     else none
    else
     (nC fj e9 cH rD bc) bX (IntKind.wrap .i64 (lB+(1:Int)))
   else none
  else
   bc bX
noncomputable def ac' (N:Nat) (a0:(List Int)) (a1:Int) (kf:(List Int)→Option aa):Option aa:=
 nC a1 a0 (List.length a0:Int) N kf ([]:(List Int)) (0:Int)
noncomputable def nU (N:Nat) (bn:(List QL)) (aV:Int):Nat→((List Int)→Option aa)→(List Int)→Int→Option aa
 |0,_,_,_=>none
 |rD+1,ck,ai,cj=>
  bif (decide (cj<aV)) then
   bif (aQ cj (List.length bn)) then
    bif ((List.getD bn (Int.toNat cj) mZ).2.1==(6:Int)) then
     ac' N ai (List.getD bn (Int.toNat cj) mZ).2.2.1 (fun ada=>
      (nU N bn aV rD ck) ada (IntKind.wrap .i64 (cj+(1:Int))))
    else
     bif ((List.getD bn (Int.toNat cj) mZ).2.1==(1:Int)) then
      S82 N ai (List.getD bn (Int.toNat cj) mZ).2.2.1 (fun adb=>
       bif (!adb) then
        bif (decide ((List.length ai+List.length [(List.getD bn (Int.toNat cj) mZ).2.2.1])*1≤4398046511104)) then
         (nU N bn aV rD ck) (ai++[(List.getD bn (Int.toNat cj) mZ).2.2.1]) (IntKind.wrap .i64 (cj+(1:Int)))
        else none
       else
        (nU N bn aV rD ck) ai (IntKind.wrap .i64 (cj+(1:Int))))
     else
      (nU N bn aV rD ck) ai (IntKind.wrap .i64 (cj+(1:Int)))
   else none
  else
   ck ai
noncomputable def I54 (N:Nat) (a0:(List QL)) (kf:(List Int)→Option aa):Option aa:=
 I75 N a0 (fun An=>
  bif (!An) then
   kf ([]:(List Int))
  else
   nU N a0 (List.length a0:Int) N (fun avY=>
    NL N avY kf) ([]:(List Int)) (0:Int))
noncomputable def qz (ae:(List QL)) (dv:(List QL)) (ai8:Int):Nat→(Bool→Option aa)→Bool→Int→Option aa
 |0,_,_,_=>none
 |rD+1,bc,ai,JB=>
  bif (decide (JB<ai8)) then
   bif (aQ JB (List.length dv)) then
    bif ((List.getD dv (Int.toNat JB) mZ).2.1==(3:Int)) then
     (qz ae dv ai8 rD bc) ((List.getD dv (Int.toNat JB) mZ).2.1==(3:Int)) (IntKind.wrap .i64 (JB+(1:Int)))
    else
     bif ((List.getD dv (Int.toNat JB) mZ).2.1==(5:Int)) then
      (qz ae dv ai8 rD bc) ((List.getD dv (Int.toNat JB) mZ).2.1==(3:Int)) (IntKind.wrap .i64 (JB+(1:Int)))
     else
      (qz ae dv ai8 rD bc) ai (IntKind.wrap .i64 (JB+(1:Int)))
   else none
  else
   bc ai
noncomputable def I55 (N:Nat) (a0:(List QL)) (kf:Bool→Option aa):Option aa:=
 qz a0 a0 (List.length a0:Int) N (fun ac9=>
  bif ac9 then
   I75 N a0 kf
  else
   kf false) false (0:Int)
noncomputable def tG (N:Nat):Nat→(dY→(List QL)→Option aa)→dY→(List QL)→Int→Option aa
 |0,_,_,_,_=>none
 |rD+1,VB,avZ,cv,av0=>
  bif (decide (av0>(0:Int))) then
   mE N avZ (9:Int) (fun av1 acp=>
    mE N acp (5:Int) (fun ac8 acr=>
     Y8 N cv (IntKind.wrap .i64 ((1:Int)+av1)) ac8 (fun arh aw1=>
      (tG N rD VB) acr arh (IntKind.wrap .i64 (av0 - (1:Int))))))
  else
   VB avZ cv
noncomputable def ai9 (N:Nat) (a0:dY) (kf:(List QL)→dY→Option aa):Option aa:=
 mE N a0 (9:Int) (fun An ry=>
  tG N N (fun apc ik=>
   bif (decide ((List.length ik:Int)>(0:Int))) then
    mE N apc (List.length ik:Int) (fun gB av3=>
     mE N av3 (10:Int) (fun Sp VC=>
      bif (Sp==(0:Int)) then
       Nv N VC [(-1:Int),(99:Int),(100:Int)] (fun ari av4=>
        bif (aQ gB (List.length ik)) then
         share (List.set ik (Int.toNat gB) ((List.getD ik (Int.toNat gB) mZ).1,((List.getD ik (Int.toNat gB) mZ).2.1,(ari,(List.getD ik (Int.toNat gB) mZ).2.2.2)))) (fun av5=>
          kf av5 av4)
        else none)
      else
       bif (Sp==(1:Int)) then
        bif (aQ gB (List.length ik)) then
         bif (aQ gB (List.length ik)) then
          share (List.set ik (Int.toNat gB) ((List.getD ik (Int.toNat gB) mZ).1,((List.getD ik (Int.toNat gB) mZ).2.1,((List.getD ik (Int.toNat gB) mZ).2.2.1,(IntKind.wrap .i64 ((List.getD ik (Int.toNat gB) mZ).2.2.2+(1:Int))))))) (fun av6=>
           kf av6 VC)
         else none
        else none
       else
        bif (Sp==(2:Int)) then
         bif (aQ gB (List.length ik)) then
          bif (aQ gB (List.length ik)) then
           share (List.set ik (Int.toNat gB) ((IntKind.wrap .i64 ((List.getD ik (Int.toNat gB) mZ).1+(1:Int))),(List.getD ik (Int.toNat gB) mZ).2)) (fun av7=>
            kf av7 VC)
          else none
         else none
        else
         kf ik VC))
   else
    kf ik apc) ry ([]:(List QL)) An)
noncomputable def ai' (N:Nat) (a0:QC) (a1:Int) (kf:QC→Bool→Option aa):Option aa:=
 R9 N a0 (fun iI=>
  vA N a0.1 a1 (fun gg=>
   bif (decide (gg<(0:Int))) then
    kf iI false
   else
    S94 N a0 (fun EW=>
     bif EW then
      kf iI false
     else
      bif (aQ gg (List.length a0.1)) then
       bif (decide ((List.length (List.getD a0.1 (Int.toNat gg) aj).2.2.2.2.2:Int)>(0:Int))) then
        kf iI false
       else
        bif (decide ((0:Int)≤(0:Int))&&decide ((0:Int)≤gg)&&decide (gg≤(List.length a0.1:Int))) then
         bif (decide ((0:Int)≤(IntKind.wrap .i64 (gg+(1:Int))))&&decide ((IntKind.wrap .i64 (gg+(1:Int)))≤(List.length a0.1:Int))&&decide ((List.length a0.1:Int)≤(List.length a0.1:Int))) then
          Fb N (List.drop (Int.toNat (0:Int)) (List.take (Int.toNat gg) a0.1)) (fun apd=>
           Fb N (List.drop (Int.toNat (IntKind.wrap .i64 (gg+(1:Int)))) (List.take (Int.toNat (List.length a0.1:Int)) a0.1)) (fun Cm=>
            bif (decide ((List.length apd+List.length Cm)*6≤4398046511104)) then
             Y9 N a0 ((apd++Cm),iI.2) true (6:Int) a1 kf
            else none))
         else none
        else none
      else none)))
noncomputable def S60 (N:Nat) (a0:QC) (a1:QL) (kf:QC→Bool→Option aa):Option aa:=
 bif (a1.1==(1:Int)) then
  ai5 N a0 a1.2.1 a1.2.2.1 kf
 else
  bif (a1.1==(2:Int)) then
   ai6 N a0 a1.2.1 a1.2.2.1 kf
  else
   bif (a1.1==(3:Int)) then
    S21 N a0 kf
   else
    bif (a1.1==(4:Int)) then
     ai7 N a0 a1.2.2.2 a1.2.1 a1.2.2.1 kf
    else
     bif (a1.1==(5:Int)) then
      S27 N a0 kf
     else
      bif (a1.1==(6:Int)) then
       ai' N a0 a1.2.1 kf
      else
       R9 N a0 (fun R7=>
        kf R7 false)
noncomputable def vG (N:Nat) (aA:(List QL)) (bz:QC):Nat→(QC→Option aa)→QC→Int→Option aa
 |0,_,_,_=>none
 |rD+1,bg,lQ,xM=>
  bif (decide (xM<(List.length aA:Int))) then
   bif (aQ xM (List.length aA)) then
    S60 N lQ (List.getD aA (Int.toNat xM) mZ) (fun xA av8=>
     (vG N aA bz rD bg) xA (IntKind.wrap .i64 (xM+(1:Int))))
   else none
  else
   bg lQ
noncomputable def S63 (N:Nat) (a0:QC) (a1:(List QL)) (kf:QC→Option aa):Option aa:=
 R9 N a0 (fun An=>
  vG N a1 (([]:(List QT)),(([]:(List QJ)),(([]:(List bJ)),(([]:(List Int)),(([]:(List QB)),(([]:(List QL)),(0:Int))))))) N kf An (0:Int))
noncomputable def ade (N:Nat) (a0:(List Int)) (kf:(List QL)→Option aa):Option aa:=
 S12 N a0 (fun An acv=>
  S67 N a0 (fun av9=>
   YT N av9 (4:Int) (fun NS aw2=>
    bif NS then
     ai9 N aw2 (fun kW mJ=>
      kf kW)
    else
     S63 N An acv (fun xF=>
      kf xF.2.2.2.2.2.1))))
noncomputable def S56 (N:Nat) (a0:(List Int)) (kf:(List QL)→Option aa):Option aa:=
 ade N a0 kf
noncomputable def S57 (N:Nat) (a0:(List Int)) (kf:(List QL)→Option aa):Option aa:=
 ade N a0 kf
noncomputable def nD (ae:(List Int)) (aA:Int):Nat→((List Int)→Option aa)→(List Int)→Int→Option aa
 |0,_,_,_=>none
 |lI+1,bj,aG,dU=>
  bif (decide (dU<(List.length ae:Int))) then
   bif (aQ dU (List.length ae)) then
    bif ((List.getD ae (Int.toNat dU) (0:Int)) != aA) then
     bif (aQ dU (List.length ae)) then
      bif (decide ((List.length aG+List.length [(List.getD ae (Int.toNat dU) (0:Int))])*1≤4398046511104)) then
       (nD ae aA lI bj) (aG++[(List.getD ae (Int.toNat dU) (0:Int))]) (IntKind.wrap .i64 (dU+(1:Int)))
      else none
     else none
    else
     (nD ae aA lI bj) aG (IntKind.wrap .i64 (dU+(1:Int)))
   else none
  else
   bj aG
noncomputable def adf (N:Nat) (a0:(List Int)) (a1:Int) (kf:(List Int)→Option aa):Option aa:=
 nD a0 a1 N kf ([]:(List Int)) (0:Int)
noncomputable def qA (N:Nat) (ae:(List QL)):Nat→((List Int)→Option aa)→(List Int)→Int→Option aa
 |0,_,_,_=>none
 |ug+1,bg,ai,bz=>
  bif (decide (bz<(List.length ae:Int))) then
   Sj N ae (fun adg=>
    bif adg then
     bif (aQ bz (List.length ae)) then
      bif ((List.getD ae (Int.toNat bz) mZ).2.1==(1:Int)) then
       bif (aQ bz (List.length ae)) then
        sD N ai (List.getD ae (Int.toNat bz) mZ).2.2.1 (fun adh=>
         (qA N ae ug bg) adh (IntKind.wrap .i64 (bz+(1:Int))))
       else none
      else
       bif ((List.getD ae (Int.toNat bz) mZ).2.1==(6:Int)) then
        bif (aQ bz (List.length ae)) then
         adf N ai (List.getD ae (Int.toNat bz) mZ).2.2.1 (fun xH=>
          (qA N ae ug bg) xH (IntKind.wrap .i64 (bz+(1:Int))))
        else none
       else
        (qA N ae ug bg) ai (IntKind.wrap .i64 (bz+(1:Int)))
     else none
    else
     bg ai)
  else
   bg ai
noncomputable def S58 (N:Nat) (a0:(List QL)) (kf:(List Int)→Option aa):Option aa:=
 qA N a0 N kf ([]:(List Int)) (0:Int)
noncomputable def AD (ae:(List Int)):Nat→(Option aa)→(Bool→Option aa)→Int→Option aa
 |0,_,_,_=>none
 |n_3+1,adi,adj,ai=>
  bif (decide (ai<(List.length ae:Int))) then
   bif (aQ (IntKind.wrap .i64 (ai - (1:Int))) (List.length ae)) then
    bif (aQ ai (List.length ae)) then
     bif (decide ((List.getD ae (Int.toNat (IntKind.wrap .i64 (ai - (1:Int)))) (0:Int))≥(List.getD ae (Int.toNat ai) (0:Int)))) then
      adj false
     else
      (AD ae n_3 adi adj) (IntKind.wrap .i64 (ai+(1:Int)))
    else none
   else none
  else
   adi
noncomputable def L59 (N:Nat) (a0:(List Int)) (kf:Bool→Option aa):Option aa:=
 AD a0 N (kf true) kf (1:Int)
noncomputable def sI (VE:(List Int)) (nE:QC):Nat→((List Int)→Option aa)→(List Int)→Int→Option aa
 |0,_,_,_=>none
 |aqS+1,oK,jE,Fo=>
  bif (decide (Fo<(List.length nE.1:Int))) then
   bif (aQ Fo (List.length nE.1)) then
    bif (decide ((List.length jE+List.length [(List.getD nE.1 (Int.toNat Fo) aj).1])*1≤4398046511104)) then
     (sI VE nE aqS oK) (jE++[(List.getD nE.1 (Int.toNat Fo) aj).1]) (IntKind.wrap .i64 (Fo+(1:Int)))
    else none
   else none
  else
   oK jE
noncomputable def Cn (N:Nat) (aja:(List Int)) (rz:QC):Nat→((List Int)→Int→Option aa)→(List Int)→Int→Int→Option aa
 |0,_,_,_,_=>none
 |NH+1,tH,lL,ui,Jo=>
  bif (decide (Jo<(List.length rz.2.1:Int))) then
   bif (aQ Jo (List.length rz.2.1)) then
    bif (decide ((List.length lL+List.length [(List.getD rz.2.1 (Int.toNat Jo) cg).1])*1≤4398046511104)) then
     bif (aQ Jo (List.length rz.2.1)) then
      I49 N rz.2.2.2.2.2.1 (List.getD rz.2.1 (Int.toNat Jo) cg).1 (fun Fp=>
       (Cn N aja rz NH tH) (lL++[(List.getD rz.2.1 (Int.toNat Jo) cg).1]) (IntKind.wrap .i64 (ui+Fp)) (IntKind.wrap .i64 (Jo+(1:Int))))
     else none
    else none
   else none
  else
   tH lL ui
noncomputable def arj (g0:Nat→(List Int)→(Bool→Option aa)→Option aa) (g1:Nat→(List Int)→(QC→(List QL)→Option aa)→Option aa) (g2:Nat→QC→(List QL)→(QC→Option aa)→Option aa) (g3:Nat→(List QL)→Int→(Int→Option aa)→Option aa) (g4:Nat→(List QL)→((List Int)→Option aa)→Option aa) (g5:Nat→(List Int)→(List Int)→(Bool→Option aa)→Option aa) (g6:Nat→(List QL)→Int→(Int→Option aa)→Option aa) (g7:Nat→(List QL)→(Int→Option aa)→Option aa) (g8:Nat→(List QL)→((List Int)→Option aa)→Option aa) (g9:Nat→(List QL)→(Bool→Option aa)→Option aa) (g10:Nat→QC→(Bool→Option aa)→Option aa) (g11:Nat→(List Int)→((List QL)→Option aa)→Option aa) (g12:Nat→(List Int)→((List QL)→Option aa)→Option aa) (g13:Nat→(List QL)→((List Int)→Option aa)→Option aa) (g14:Nat→(List Int)→(Bool→Option aa)→Option aa) (g15:Nat→(List Int)→QC→Nat→((List Int)→Int→Option aa)→(List Int)→Int→Int→Option aa) (g16:(List Int)→QC→Nat→((List Int)→Option aa)→(List Int)→Int→Option aa) (N:Nat) (a0:(List Int)) (kf:Bool→Option aa):Option aa:=
 g0 N a0 (fun EY=>
  bif EY then
   kf true
  else
   g1 N a0 (fun EZ acn=>
    g2 N EZ acn (fun xN=>
     g15 N a0 xN N (fun av' awa=>
      g4 N xN.2.2.2.2.2.1 (fun ark=>
       g5 N ark av' (fun arl=>
        bif (!arl) then
         kf false
        else
         g6 N xN.2.2.2.2.2.1 (4:Int) (fun arn=>
          bif (awa != arn) then
           kf false
          else
           g7 N xN.2.2.2.2.2.1 (fun aro=>
            bif (decide (aro>xN.2.2.2.2.2.2)) then
             kf false
            else
             g16 a0 xN N (fun awb=>
              g8 N xN.2.2.2.2.2.1 (fun arp=>
               g5 N arp awb (fun arq=>
                bif (!arq) then
                 kf false
                else
                 g9 N xN.2.2.2.2.2.1 (fun ars=>
                  g10 N xN (fun ajb=>
                   bif (!(ars==ajb)) then
                    kf false
                   else
                    g11 N a0 (fun Ds=>
                     g12 N a0 (fun VF=>
                      g8 N Ds (fun ajc=>
                       g13 N Ds (fun ajd=>
                        bif ((List.length ajc:Int) != (List.length ajd:Int)) then
                         kf false
                        else
                         g8 N Ds (fun aje=>
                          g14 N aje (fun ajf=>
                           bif ajf then
                            g4 N Ds (fun ajg=>
                             g14 N ajg (fun ajh=>
                              bif ajh then
                               g7 N VF (fun aji=>
                                kf (decide (aji≤(List.length VF:Int))))
                              else
                               kf false))
                           else
                            kf false))))))))))) ([]:(List Int)) (0:Int)))))) ([]:(List Int)) (0:Int) (0:Int))))
noncomputable def L8 (N:Nat) (a0:(List Int)) (kf:Bool→Option aa):Option aa:=arj L11 S12 I43 I49 I51 L50 I52 I53 I54 I55 Vs S56 S57 S58 L59 Cn sI N a0 kf
end Go.Pv.R
