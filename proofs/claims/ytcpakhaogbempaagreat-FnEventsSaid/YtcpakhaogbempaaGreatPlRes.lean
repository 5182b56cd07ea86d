/- What the functions compute, as plain functions. -/
import Derived.Test.YtcpakhaogbempaaGreatPv4
namespace Go.Pv.R
set_option linter.unusedVariables false
set_option linter.unusedSimpArgs false
abbrev iN:Ty:=(.pair (.int .i64) (.pair (.int .i64) (.sl (.int .i64))))
abbrev QJ:Type:=(Int×(Int×(List Int)))
def ck:QJ:=((0:Int),((0:Int),([]:(List Int))))
abbrev cS:Ty:=(.pair (.int .i64) (.pair (.int .i64) (.pair (.int .i64) (.pair (.int .i64) (.pair (.int .i64) (.sl (.int .i64)))))))
abbrev QT:Type:=(Int×(Int×(Int×(Int×(Int×(List Int))))))
def ak:QT:=((0:Int),((0:Int),((0:Int),((0:Int),((0:Int),([]:(List Int)))))))
abbrev c9:Ty:=(.pair (.int .i64) (.int .i64))
abbrev br:Type:=(Int×Int)
def cO:br:=((0:Int),(0:Int))
abbrev rI:Ty:=(.pair (.int .i64) (.pair (.int .i64) (.int .i64)))
abbrev QB:Type:=(Int×(Int×Int))
def fg:QB:=((0:Int),((0:Int),(0:Int)))
abbrev mO:Ty:=(.pair (.int .i64) (.pair (.int .i64) (.pair (.int .i64) (.int .i64))))
abbrev QL:Type:=(Int×(Int×(Int×Int)))
def xD:QL:=((0:Int),((0:Int),((0:Int),(0:Int))))
abbrev cA:Ty:=(.pair (.sl (.int .u8)) (.pair (.int .i64) (.int .i64)))
abbrev dt:Type:=((List Int)×(Int×Int))
abbrev c6:Ty:=(.pair (.sl cS) (.pair (.sl iN) (.pair (.sl c9) (.pair (.sl (.int .i64)) (.pair (.sl rI) (.pair (.sl mO) (.int .i64)))))))
abbrev QC:Type:=((List QT)×((List QJ)×((List br)×((List Int)×((List QB)×((List QL)×Int))))))
noncomputable def aJ:ByteArray:=⟨#[0,1,2,2,3,3,3,3,4,4,4,4,4,4,4,4,5,5,5,5,5,5,5,5,5,5,5,5,5,5,5,5,6,6,6,6,6,6,6,6,6,6,6,6,6,6,6,6,6,6,6,6,6,6,6,6,6,6,6,6,6,6,6,6,7,7,7,7,7,7,7,7,7,7,7,7,7,7,7,7,7,7,7,7,7,7,7,7,7,7,7,7,7,7,7,7,7,7,7,7,7,7,7,7,7,7,7,7,7,7,7,7,7,7,7,7,7,7,7,7,7,7,7,7,7,7,7,7,8,8,8,8,8,8,8,8,8,8,8,8,8,8,8,8,8,8,8,8,8,8,8,8,8,8,8,8,8,8,8,8,8,8,8,8,8,8,8,8,8,8,8,8,8,8,8,8,8,8,8,8,8,8,8,8,8,8,8,8,8,8,8,8,8,8,8,8,8,8,8,8,8,8,8,8,8,8,8,8,8,8,8,8,8,8,8,8,8,8,8,8,8,8,8,8,8,8,8,8,8,8,8,8,8,8,8,8,8,8,8,8,8,8,8,8,8,8,8,8,8,8,8,8,8,8,8,8]⟩
noncomputable def s_e:ByteArray:=⟨#[]⟩
noncomputable def L11 (N:Nat) (a0:(List Int)) (kf:Bool→Option aa):Option aa:=
 kf (decide ((List.length a0:Int)>(1048576:Int)))
noncomputable def Aw (ae:(List Int)):Nat→(Int→Option aa)→Int→Int→Option aa
 |0,_,_,_=>none
 |Ax+1,gG,aC,b6=>
  bif (decide (b6<(List.length ae:Int))) then
   bif (decide (b6<(4000:Int))) then
    bif (aO b6 (List.length ae)) then
     (Aw ae Ax gG) (IntKind.wrap .i64 (BitVec.toNat (BitVec.ofInt (IntKind.bits .i64) (IntKind.wrap .i64 ((IntKind.wrap .i64 ((IntKind.wrap .i64 (aC*(137:Int)))+(IntKind.wrap .i64 (List.getD ae (Int.toNat b6) (0:Int)))))+(11:Int)))&&&BitVec.ofInt (IntKind.bits .i64) (1073741823:Int)))) (IntKind.wrap .i64 (b6+(1:Int)))
    else none
   else
    gG aC
  else
   gG aC
noncomputable def S67 (N:Nat) (a0:(List Int)) (kf:dt→Option aa):Option aa:=
 Aw a0 N (fun aw9=>
  kf (a0,((0:Int),aw9))) (IntKind.wrap .i64 ((193017:Int)+(List.length a0:Int))) (0:Int)
noncomputable def S68 (N:Nat) (kf:QC→Option aa):Option aa:=
 kf (([]:(List QT)),(([]:(List QJ)),(([]:(List br)),(([]:(List Int)),(([]:(List QB)),(([]:(List QL)),(0:Int)))))))
noncomputable def R0 (N:Nat) (a0:dt) (kf:Int→dt→Option aa):Option aa:=
 share (IntKind.wrap .i64 ((IntKind.wrap .i64 (a0.2.2*(6364136223846793005:Int)))+(1442695040888963407:Int))) (fun Ze=>
  bif (decide (0≤(33:Int))) then
   bif (decide (0≤(47:Int))) then
    bif (decide (a0.2.1<(List.length a0.1:Int))) then
     bif (aO a0.2.1 (List.length a0.1)) then
      kf (IntKind.wrap .i64 (BitVec.toNat (BitVec.ofInt (IntKind.bits .i64) (IntKind.wrap .i64 ((IntKind.wrap .i64 (BitVec.toNat (BitVec.ofInt (IntKind.bits .i64) (IntKind.wrap .i64 (BitVec.toNat (BitVec.ofInt (IntKind.bits .i64) (Int.fdiv Ze (2^(min (Int.toNat (33:Int)) (IntKind.bits .i64))))^^^BitVec.ofInt (IntKind.bits .i64) (Int.fdiv Ze (2^(min (Int.toNat (47:Int)) (IntKind.bits .i64)))))))&&&BitVec.ofInt (IntKind.bits .i64) (255:Int))))+(IntKind.wrap .i64 (List.getD a0.1 (Int.toNat a0.2.1) (0:Int)))))&&&BitVec.ofInt (IntKind.bits .i64) (255:Int)))) (a0.1,((IntKind.wrap .i64 (a0.2.1+(1:Int))),Ze))
     else none
    else
     kf (IntKind.wrap .i64 (BitVec.toNat (BitVec.ofInt (IntKind.bits .i64) (IntKind.wrap .i64 (BitVec.toNat (BitVec.ofInt (IntKind.bits .i64) (Int.fdiv Ze (2^(min (Int.toNat (33:Int)) (IntKind.bits .i64))))^^^BitVec.ofInt (IntKind.bits .i64) (Int.fdiv Ze (2^(min (Int.toNat (47:Int)) (IntKind.bits .i64)))))))&&&BitVec.ofInt (IntKind.bits .i64) (255:Int)))) (a0.1,(a0.2.1,Ze))
   else none
  else none)
noncomputable def lF (N:Nat) (a0:dt) (a1:Int) (kf:Int→dt→Option aa):Option aa:=
 bif (decide (a1≤(0:Int))) then
  kf (0:Int) a0
 else
  bif (decide (a1≤(256:Int))) then
   R0 N a0 (fun eI ui=>
    bif (!decide (a1=0)) then
     kf (Int.tmod eI a1) ui
    else none)
  else
   R0 N a0 (fun au' aq7=>
    R0 N aq7 (fun acV aq8=>
     R0 N aq8 (fun NC Zf=>
      bif (!decide (a1=0)) then
       kf (Int.tmod (IntKind.wrap .i64 ((IntKind.wrap .i64 ((IntKind.wrap .i64 (au'*(65536:Int)))+(IntKind.wrap .i64 (acV*(256:Int)))))+NC)) a1) Zf
      else none)))
noncomputable def Zg (N:Nat) (a0:dt) (a1:Int) (kf:Bool→dt→Option aa):Option aa:=
 lF N a0 a1 (fun EX ui=>
  kf (EX==(0:Int)) ui)
noncomputable def ND (N:Nat) (a0:dt) (a1:(List Int)) (kf:Int→dt→Option aa):Option aa:=
 lF N a0 (List.length a1:Int) (fun iO ui=>
  bif (aO iO (List.length a1)) then
   kf (List.getD a1 (Int.toNat iO) (0:Int)) ui
  else none)
noncomputable def acW (N:Nat) (a0:dt) (kf:QL→dt→Option aa):Option aa:=
 ND N a0 [(1:Int),(2:Int),(3:Int),(3:Int),(4:Int),(4:Int),(4:Int),(5:Int),(5:Int),(6:Int)] (fun Ay ui=>
  bif (Ay==(1:Int)) then
   lF N ui (9:Int) (fun acX aq7=>
    lF N aq7 (3:Int) (fun NF aq8=>
     kf (Ay,((IntKind.wrap .i64 ((1:Int)+acX)),((IntKind.wrap .i64 ((1:Int)+NF)),(0:Int)))) aq8))
  else
   bif (Ay==(2:Int)) then
    lF N ui (5:Int) (fun ava Zf=>
     kf (Ay,((IntKind.wrap .i64 ((11:Int)+ava)),((4:Int),(0:Int)))) Zf)
   else
    bif (Ay==(4:Int)) then
     lF N ui (3:Int) (fun avb avc=>
      lF N avc (20:Int) (fun R1 avd=>
       lF N avd (20:Int) (fun aq9 acY=>
        kf (Ay,((IntKind.wrap .i64 ((60:Int)+R1)),((IntKind.wrap .i64 ((60:Int)+aq9)),avb))) acY)))
    else
     bif (Ay==(6:Int)) then
      lF N ui (9:Int) (fun aq' ave=>
       kf (Ay,((IntKind.wrap .i64 ((1:Int)+aq')),((0:Int),(0:Int)))) ave)
     else
      kf (Ay,((0:Int),((0:Int),(0:Int)))) ui)
noncomputable def Az (N:Nat):Nat→(dt→(List QL)→Option aa)→dt→(List QL)→Int→Option aa
 |0,_,_,_,_=>none
 |n_9+1,VT,er,ia,su=>
  bif (decide (su>(0:Int))) then
   acW N er (fun R2 avf=>
    bif (decide ((List.length ia+List.length [R2])*4≤4398046511104)) then
     (Az N n_9 VT) avf (ia++[R2]) (IntKind.wrap .i64 (su - (1:Int)))
    else none)
  else
   VT er ia
noncomputable def Jd (N:Nat) (kf:(List QL)→dt→Option aa) (ui:dt) (aw':(List QL)):Option aa:=
 lF N ui (14:Int) (fun avg axa=>
  Az N N (fun acY avh=>
   kf avh acY) axa aw' avg)
noncomputable def S69 (N:Nat) (a0:dt) (kf:(List QL)→dt→Option aa):Option aa:=
 Zg N a0 (2:Int) (fun cw ui=>
  bif cw then
   bif (decide ((List.length [((1:Int),((2:Int),((1:Int),(0:Int)))),((1:Int),((4:Int),((2:Int),(0:Int)))),((2:Int),((11:Int),((4:Int),(0:Int)))),((2:Int),((12:Int),((5:Int),(0:Int))))]+List.length [((1:Int),((6:Int),((1:Int),(0:Int)))),((1:Int),((8:Int),((3:Int),(0:Int))))])*4≤4398046511104)) then
    Jd N kf ui ([((1:Int),((2:Int),((1:Int),(0:Int)))),((1:Int),((4:Int),((2:Int),(0:Int)))),((2:Int),((11:Int),((4:Int),(0:Int)))),((2:Int),((12:Int),((5:Int),(0:Int))))]++[((1:Int),((6:Int),((1:Int),(0:Int)))),((1:Int),((8:Int),((3:Int),(0:Int))))])
   else none
  else
   Jd N kf ui [((1:Int),((2:Int),((1:Int),(0:Int)))),((1:Int),((4:Int),((2:Int),(0:Int)))),((2:Int),((11:Int),((4:Int),(0:Int)))),((2:Int),((12:Int),((5:Int),(0:Int))))])
noncomputable def S12 (N:Nat) (a0:(List Int)) (kf:QC→(List QL)→Option aa):Option aa:=
 S67 N a0 (fun Ay=>
  S68 N (fun axb=>
   S69 N Ay (fun axc axT=>
    kf axb axc)))
noncomputable def Je (N:Nat) (a0:(List Int)) (kf:(List Int)→Option aa):Option aa:=
 bif (List.isEmpty a0) then
  both (kf ([]:(List Int))) (
   bif (decide ((List.length ([]:(List Int))+List.length a0)*1≤4398046511104)) then
    kf (([]:(List Int))++a0)
   else none)
 else
  bif (decide ((List.length ([]:(List Int))+List.length a0)*1≤4398046511104)) then
   kf (([]:(List Int))++a0)
  else none
noncomputable def pY (N:Nat) (eW:(List QT)) (la:Int):Nat→((List QT)→Option aa)→(List QT)→Int→Option aa
 |0,_,_,_=>none
 |jU+1,bB,bu,iP=>
  bif (decide (iP<la)) then
   bif (aO iP (List.length eW)) then
    Je N (List.getD eW (Int.toNat iP) ak).2.2.2.2.2 (fun sv=>
     bif (decide ((List.length bu+List.length [((List.getD eW (Int.toNat iP) ak).1,((List.getD eW (Int.toNat iP) ak).2.1,((List.getD eW (Int.toNat iP) ak).2.2.1,((List.getD eW (Int.toNat iP) ak).2.2.2.1,((List.getD eW (Int.toNat iP) ak).2.2.2.2.1,sv)))))])*6≤4398046511104)) then
      (pY N eW la jU bB) (bu++[((List.getD eW (Int.toNat iP) ak).1,((List.getD eW (Int.toNat iP) ak).2.1,((List.getD eW (Int.toNat iP) ak).2.2.1,((List.getD eW (Int.toNat iP) ak).2.2.2.1,((List.getD eW (Int.toNat iP) ak).2.2.2.2.1,sv)))))]) (IntKind.wrap .i64 (iP+(1:Int)))
     else none)
   else none
  else
   bB bu
noncomputable def R3 (N:Nat) (a0:(List QT)) (kf:(List QT)→Option aa):Option aa:=
 pY N a0 (List.length a0:Int) N kf ([]:(List QT)) (0:Int)
noncomputable def pZ (N:Nat) (eW:(List QJ)) (la:Int):Nat→((List QJ)→Option aa)→(List QJ)→Int→Option aa
 |0,_,_,_=>none
 |jU+1,bB,bu,iP=>
  bif (decide (iP<la)) then
   bif (aO iP (List.length eW)) then
    Je N (List.getD eW (Int.toNat iP) ck).2.2 (fun sv=>
     bif (decide ((List.length bu+List.length [((List.getD eW (Int.toNat iP) ck).1,((List.getD eW (Int.toNat iP) ck).2.1,sv))])*3≤4398046511104)) then
      (pZ N eW la jU bB) (bu++[((List.getD eW (Int.toNat iP) ck).1,((List.getD eW (Int.toNat iP) ck).2.1,sv))]) (IntKind.wrap .i64 (iP+(1:Int)))
     else none)
   else none
  else
   bB bu
noncomputable def aiv (N:Nat) (a0:(List QJ)) (kf:(List QJ)→Option aa):Option aa:=
 pZ N a0 (List.length a0:Int) N kf ([]:(List QJ)) (0:Int)
noncomputable def aiw (N:Nat) (a0:(List br)) (kf:(List br)→Option aa):Option aa:=
 bif (List.isEmpty a0) then
  both (kf ([]:(List br))) (
   bif (decide ((List.length ([]:(List br))+List.length a0)*2≤4398046511104)) then
    kf (([]:(List br))++a0)
   else none)
 else
  bif (decide ((List.length ([]:(List br))+List.length a0)*2≤4398046511104)) then
   kf (([]:(List br))++a0)
  else none
noncomputable def aix (N:Nat) (a0:(List QB)) (kf:(List QB)→Option aa):Option aa:=
 bif (List.isEmpty a0) then
  both (kf ([]:(List QB))) (
   bif (decide ((List.length ([]:(List QB))+List.length a0)*3≤4398046511104)) then
    kf (([]:(List QB))++a0)
   else none)
 else
  bif (decide ((List.length ([]:(List QB))+List.length a0)*3≤4398046511104)) then
   kf (([]:(List QB))++a0)
  else none
noncomputable def Zh (N:Nat) (a0:(List QL)) (kf:(List QL)→Option aa):Option aa:=
 bif (List.isEmpty a0) then
  both (kf ([]:(List QL))) (
   bif (decide ((List.length ([]:(List QL))+List.length a0)*4≤4398046511104)) then
    kf (([]:(List QL))++a0)
   else none)
 else
  bif (decide ((List.length ([]:(List QL))+List.length a0)*4≤4398046511104)) then
   kf (([]:(List QL))++a0)
  else none
noncomputable def H4 (N:Nat) (a0:QC) (kf:QC→Option aa):Option aa:=
 R3 N a0.1 (fun EY=>
  aiv N a0.2.1 (fun ara=>
   aiw N a0.2.2.1 (fun acX=>
    Je N a0.2.2.2.1 (fun NG=>
     aix N a0.2.2.2.2.1 (fun acV=>
      Zh N a0.2.2.2.2.2.1 (fun avi=>
       kf (EY,(ara,(acX,(NG,(acV,(avi,a0.2.2.2.2.2.2))))))))))))
noncomputable def aiy (N:Nat) (a0:QT) (a1:Int) (kf:Bool→Option aa):Option aa:=
 kf (a0.1==a1)
noncomputable def p5 (N:Nat) (ae:(List QT)) (aw:Int) (sw:Int):Nat→(Option aa)→(Int→Option aa)→Int→Option aa
 |0,_,_,_=>none
 |jU+1,fh,fi,fK=>
  bif (decide (fK<sw)) then
   bif (aO fK (List.length ae)) then
    aiy N (List.getD ae (Int.toNat fK) ak) aw (fun mP=>
     bif mP then
      fi fK
     else
      (p5 N ae aw sw jU fh fi) (IntKind.wrap .i64 (fK+(1:Int))))
   else none
  else
   fh
noncomputable def arb (N:Nat) (a0:(List QT)) (acZ:Int) (kf:Int→Option aa):Option aa:=
 p5 N a0 acZ (List.length a0:Int) N (kf (-1:Int)) kf (0:Int)
noncomputable def NH (N:Nat) (a0:(List QT)) (a1:Int) (kf:Int→Option aa):Option aa:=
 arb N a0 a1 kf
noncomputable def R4 (N:Nat) (a0:QC) (kf:Bool→Option aa):Option aa:=
 kf (decide ((List.length a0.2.2.1:Int)>(0:Int)))
noncomputable def aiz (N:Nat) (a0:(List QT)) (a1:Int) (a2:(List QT)) (kf:(List QT)→Option aa):Option aa:=
 bif (decide ((0:Int)≤a1)&&(decide (a1≤(List.length a0:Int))&&(Nat.blt 0 (List.length a2)&&Nat.ble ((List.length a0+List.length a2)*Ty.size cS) 4398046511104))) then
  kf (List.take (Int.toNat a1) a0++a2++List.drop (Int.toNat a1) a0)
 else none
noncomputable def arc (N:Nat) (a0:(List QL)) (kf:Int→Option aa):Option aa:=
 bif ((List.length a0:Int)==(0:Int)) then
  kf (0:Int)
 else
  bif (aO (IntKind.wrap .i64 ((List.length a0:Int) - (1:Int))) (List.length a0)) then
   kf (List.getD a0 (Int.toNat (IntKind.wrap .i64 ((List.length a0:Int) - (1:Int)))) xD).2.2.2
  else none
noncomputable def eX (N:Nat) (a0:Int) (a1:Int) (a2:Int) (kf:Bool→Option aa):Option aa:=
 bif (decide (a1≤a0)) then
  kf (decide (a0≤a2))
 else
  kf false
noncomputable def aiA (N:Nat) (a0:Int) (a1:Int) (kf:Int→Option aa):Option aa:=
 eX N a1 (1:Int) (1000000000000:Int) (fun EX=>
  bif (!EX) then
   kf (0:Int)
  else
   bif (!decide (a1=0)) then
    bif (decide ((Int.tmod a0 a1)<(0:Int))) then
     kf (IntKind.wrap .i64 ((Int.tmod a0 a1)+a1))
    else
     kf (Int.tmod a0 a1)
   else none)
noncomputable def aiB (N:Nat) (a0:Int) (a1:Int) (kf:Int→Option aa):Option aa:=
 aiA N a1 (2147483647:Int) (fun ac0=>
  kf (Int.tmod (IntKind.wrap .i64 ((IntKind.wrap .i64 ((IntKind.wrap .i64 (a0*(1000003:Int)))+ac0))+(13:Int))) (2147483647:Int)))
noncomputable def p6 (N:Nat) (jh:(List Int)) (sw:Int):Nat→(Int→Option aa)→Int→Int→Option aa
 |0,_,_,_=>none
 |jU+1,bB,bu,fK=>
  bif (decide (fK<sw)) then
   bif (aO fK (List.length jh)) then
    aiB N bu (List.getD jh (Int.toNat fK) (0:Int)) (fun NI=>
     (p6 N jh sw jU bB) NI (IntKind.wrap .i64 (fK+(1:Int))))
   else none
  else
   bB bu
noncomputable def aiC (N:Nat) (a0:(List Int)) (kf:Int→Option aa):Option aa:=
 p6 N a0 (List.length a0:Int) N kf (11:Int) (0:Int)
noncomputable def R5 (N:Nat) (a0:Int) (a1:QL) (kf:Int→Option aa):Option aa:=
 aiC N [a0,a1.1,a1.2.1,a1.2.2.1] kf
noncomputable def vq (N:Nat) (p7:(List QL)) (ld:Int):Nat→(Option aa)→(Bool→Option aa)→Int→Int→Option aa
 |0,_,_,_,_=>none
 |jU+1,iQ,iD,bu,oQ=>
  bif (decide (oQ<ld)) then
   bif (aO oQ (List.length p7)) then
    bif ((List.getD p7 (Int.toNat oQ) xD).1 != (IntKind.wrap .i64 (oQ+(1:Int)))) then
     iD false
    else
     eX N (List.getD p7 (Int.toNat oQ) xD).2.1 (1:Int) (9:Int) (fun xE=>
      bif (!xE) then
       iD false
      else
       eX N (List.getD p7 (Int.toNat oQ) xD).2.2.1 (0:Int) (99:Int) (fun NJ=>
        bif (!NJ) then
         iD false
        else
         R5 N bu (List.getD p7 (Int.toNat oQ) xD) (fun NK=>
          bif ((List.getD p7 (Int.toNat oQ) xD).2.2.2 != NK) then
           iD false
          else
           (vq N p7 ld jU iQ iD) (List.getD p7 (Int.toNat oQ) xD).2.2.2 (IntKind.wrap .i64 (oQ+(1:Int))))))
   else none
  else
   iQ
noncomputable def I75 (N:Nat) (a0:(List QL)) (kf:Bool→Option aa):Option aa:=
 bif (decide ((List.length a0:Int)>(200:Int))) then
  kf false
 else
  vq N a0 (List.length a0:Int) N (kf true) kf (0:Int) (0:Int)
noncomputable def aiD (N:Nat) (a0:(List QL)) (a1:Int) (a2:Int) (kf:(List QL)→Bool→Option aa):Option aa:=
 arc N a0 (fun NL=>
  R5 N NL ((IntKind.wrap .i64 ((List.length a0:Int)+(1:Int))),(a1,(a2,(0:Int)))) (fun xF=>
   Zh N a0 (fun ac1=>
    bif (decide ((List.length ac1+List.length [((IntKind.wrap .i64 ((List.length a0:Int)+(1:Int))),(a1,(a2,xF)))])*4≤4398046511104)) then
     I75 N (ac1++[((IntKind.wrap .i64 ((List.length a0:Int)+(1:Int))),(a1,(a2,xF)))]) (fun avj=>
      bif (!avj) then
       Zh N a0 (fun avk=>
        kf avk false)
      else
       kf (ac1++[((IntKind.wrap .i64 ((List.length a0:Int)+(1:Int))),(a1,(a2,xF)))]) true)
    else none)))
noncomputable def sx (ee:Int) (la:(List Int)) (iP:Int):Nat→(Int→Option aa)→Int→Int→Option aa
 |0,_,_,_=>none
 |Jf+1,cq,ft,eZ=>
  bif (decide (eZ<iP)) then
   bif (aO eZ (List.length la)) then
    bif ((List.getD la (Int.toNat eZ) (0:Int))==ee) then
     (sx ee la iP Jf cq) (IntKind.wrap .i64 (ft+(1:Int))) (IntKind.wrap .i64 (eZ+(1:Int)))
    else
     (sx ee la iP Jf cq) ft (IntKind.wrap .i64 (eZ+(1:Int)))
   else none
  else
   cq ft
noncomputable def I78 (N:Nat) (a0:(List Int)) (a1:Int) (kf:Int→Option aa):Option aa:=
 sx a1 a0 (List.length a0:Int) N kf (0:Int) (0:Int)
noncomputable def il (N:Nat) (uA:(List QT)) (uB:QT) (Jg:(List QT)) (Jh:Int) (Ji:Int) (ib:(List Int)) (ac2:Int):Nat→(Option aa)→(Bool→Option aa)→Int→Option aa
 |0,_,_,_=>none
 |axd+1,oS,im,AA=>
  bif (decide (AA<ac2)) then
   bif (aO AA (List.length ib)) then
    NH N uA (List.getD ib (Int.toNat AA) (0:Int)) (fun vt=>
     bif (decide (vt<(0:Int))) then
      im false
     else
      bif ((List.getD ib (Int.toNat AA) (0:Int))==uB.1) then
       im false
      else
       bif (aO vt (List.length uA)) then
        I78 N uB.2.2.2.2.2 (List.getD ib (Int.toNat AA) (0:Int)) (fun R6=>
         I78 N (List.getD uA (Int.toNat vt) ak).2.2.2.2.2 uB.1 (fun Jj=>
          bif (R6 != Jj) then
           im false
          else
           (il N uA uB Jg Jh Ji ib ac2 axd oS im) (IntKind.wrap .i64 (AA+(1:Int)))))
       else none)
   else none
  else
   oS
noncomputable def Dm (N:Nat) (bz:Bool→Option aa) (ard:Int→Option aa) (ae:(List QT)) (cH:(List QT)) (EZ:Int) (eJ:Int):Option aa:=
 il N ae (List.getD cH (Int.toNat eJ) ak) cH EZ eJ (List.getD cH (Int.toNat eJ) ak).2.2.2.2.2 (List.length (List.getD cH (Int.toNat eJ) ak).2.2.2.2.2:Int) N (ard (IntKind.wrap .i64 (eJ+(1:Int)))) bz (0:Int)
noncomputable def nC (N:Nat) (ae:(List QT)) (cH:(List QT)) (EZ:Int):Nat→(Option aa)→(Bool→Option aa)→Int→Option aa
 |0,_,_,_=>none
 |jU+1,p8,bz,eJ=>
  bif (decide (eJ<EZ)) then
   bif (aO eJ (List.length cH)) then
    eX N (List.getD cH (Int.toNat eJ) ak).1 (1:Int) (99:Int) (fun xE=>
     bif (!xE) then
      bz false
     else
      bif (decide (eJ>(0:Int))) then
       bif (aO (IntKind.wrap .i64 (eJ - (1:Int))) (List.length ae)) then
        bif (decide ((List.getD cH (Int.toNat eJ) ak).1≤(List.getD ae (Int.toNat (IntKind.wrap .i64 (eJ - (1:Int)))) ak).1)) then
         bz false
        else
         eX N (List.getD cH (Int.toNat eJ) ak).2.1 (1:Int) (99:Int) (fun ac3=>
          bif (!ac3) then
           bz false
          else
           bif (decide ((List.length (List.getD cH (Int.toNat eJ) ak).2.2.2.2.2:Int)>(20:Int))) then
            bz false
           else
            eX N (List.getD cH (Int.toNat eJ) ak).2.2.1 (0:Int) (List.length (List.getD cH (Int.toNat eJ) ak).2.2.2.2.2:Int) (fun H5=>
             bif (!H5) then
              bz false
             else
              eX N (List.getD cH (Int.toNat eJ) ak).2.2.2.2.1 (0:Int) (List.length (List.getD cH (Int.toNat eJ) ak).2.2.2.2.2:Int) (fun ac4=>
               bif (!ac4) then
                bz false
               else
                eX N (List.getD cH (Int.toNat eJ) ak).2.2.2.1 (0:Int) (100000:Int) (fun R7=>
                 bif (!R7) then
                  bz false
                 else
                  Dm N bz (nC N ae cH EZ jU p8 bz) ae cH EZ eJ))))
       else none
      else
       eX N (List.getD cH (Int.toNat eJ) ak).2.1 (1:Int) (99:Int) (fun R8=>
        bif (!R8) then
         bz false
        else
         bif (decide ((List.length (List.getD cH (Int.toNat eJ) ak).2.2.2.2.2:Int)>(20:Int))) then
          bz false
         else
          eX N (List.getD cH (Int.toNat eJ) ak).2.2.1 (0:Int) (List.length (List.getD cH (Int.toNat eJ) ak).2.2.2.2.2:Int) (fun R9=>
           bif (!R9) then
            bz false
           else
            eX N (List.getD cH (Int.toNat eJ) ak).2.2.2.2.1 (0:Int) (List.length (List.getD cH (Int.toNat eJ) ak).2.2.2.2.2:Int) (fun p9=>
             bif (!p9) then
              bz false
             else
              eX N (List.getD cH (Int.toNat eJ) ak).2.2.2.1 (0:Int) (100000:Int) (fun Sa=>
               bif (!Sa) then
                bz false
               else
                Dm N bz (nC N ae cH EZ jU p8 bz) ae cH EZ eJ)))))
   else none
  else
   p8
noncomputable def AB (N:Nat) (a0:(List QT)) (kf:Bool→Option aa):Option aa:=
 bif (decide ((List.length a0:Int)>(10:Int))) then
  kf false
 else
  nC N a0 a0 (List.length a0:Int) N (kf true) kf (0:Int)
noncomputable def mQ (N:Nat) (NM:(List QJ)) (fj:QJ) (E0:(List QJ)) (E3:Int) (E4:Int) (ic:(List Int)) (Sb:Int):Nat→(Option aa)→(Bool→Option aa)→Int→Option aa
 |0,_,_,_=>none
 |avl+1,qa,lU,qb=>
  bif (decide (qb<Sb)) then
   bif (aO qb (List.length ic)) then
    eX N (List.getD ic (Int.toNat qb) (0:Int)) (1:Int) (99:Int) (fun Sc=>
     bif (!Sc) then
      lU false
     else
      bif (decide (qb>(0:Int))) then
       bif (aO (IntKind.wrap .i64 (qb - (1:Int))) (List.length fj.2.2)) then
        bif (decide ((List.getD ic (Int.toNat qb) (0:Int))≤(List.getD fj.2.2 (Int.toNat (IntKind.wrap .i64 (qb - (1:Int)))) (0:Int)))) then
         lU false
        else
         (mQ N NM fj E0 E3 E4 ic Sb avl qa lU) (IntKind.wrap .i64 (qb+(1:Int)))
       else none
      else
       (mQ N NM fj E0 E3 E4 ic Sb avl qa lU) (IntKind.wrap .i64 (qb+(1:Int))))
   else none
  else
   qa
noncomputable def Jk (N:Nat) (dH:Bool→Option aa) (are:Int→Option aa) (ae:(List QJ)) (eK:(List QJ)) (fk:Int) (bJ:Int):Option aa:=
 mQ N ae (List.getD eK (Int.toNat bJ) ck) eK fk bJ (List.getD eK (Int.toNat bJ) ck).2.2 (List.length (List.getD eK (Int.toNat bJ) ck).2.2:Int) N (are (IntKind.wrap .i64 (bJ+(1:Int)))) dH (0:Int)
noncomputable def sy (N:Nat) (ae:(List QJ)) (eK:(List QJ)) (fk:Int):Nat→(Option aa)→(Bool→Option aa)→Int→Option aa
 |0,_,_,_=>none
 |jU+1,qc,dH,bJ=>
  bif (decide (bJ<fk)) then
   bif (aO bJ (List.length eK)) then
    eX N (List.getD eK (Int.toNat bJ) ck).1 (1:Int) (99:Int) (fun ac5=>
     bif (!ac5) then
      dH false
     else
      bif (decide (bJ>(0:Int))) then
       bif (aO (IntKind.wrap .i64 (bJ - (1:Int))) (List.length ae)) then
        bif (decide ((List.getD eK (Int.toNat bJ) ck).1≤(List.getD ae (Int.toNat (IntKind.wrap .i64 (bJ - (1:Int)))) ck).1)) then
         dH false
        else
         eX N (List.getD eK (Int.toNat bJ) ck).2.1 (1:Int) (99:Int) (fun ac6=>
          bif (!ac6) then
           dH false
          else
           Jk N dH (sy N ae eK fk jU qc dH) ae eK fk bJ)
       else none
      else
       eX N (List.getD eK (Int.toNat bJ) ck).2.1 (1:Int) (99:Int) (fun sz=>
        bif (!sz) then
         dH false
        else
         Jk N dH (sy N ae eK fk jU qc dH) ae eK fk bJ))
   else none
  else
   qc
noncomputable def I79 (N:Nat) (a0:(List QJ)) (kf:Bool→Option aa):Option aa:=
 bif (decide ((List.length a0:Int)>(10:Int))) then
  kf false
 else
  sy N a0 a0 (List.length a0:Int) N (kf true) kf (0:Int)
noncomputable def qd (ae:(List Int)) (aw:Int) (sw:Int):Nat→(Option aa)→(Int→Option aa)→Int→Option aa
 |0,_,_,_=>none
 |jU+1,AD,AE,fK=>
  bif (decide (fK<sw)) then
   bif (aO fK (List.length ae)) then
    bif (aw==(List.getD ae (Int.toNat fK) (0:Int))) then
     AE fK
    else
     (qd ae aw sw jU AD AE) (IntKind.wrap .i64 (fK+(1:Int)))
   else none
  else
   AD
noncomputable def Sd (N:Nat) (a0:(List Int)) (a1:Int) (kf:Int→Option aa):Option aa:=
 qd a0 a1 (List.length a0:Int) N (kf (-1:Int)) kf (0:Int)
noncomputable def S82 (N:Nat) (a0:(List Int)) (a1:Int) (kf:Bool→Option aa):Option aa:=
 Sd N a0 a1 (fun EX=>
  kf (decide (EX≥(0:Int))))
noncomputable def I19 (N:Nat) (a0:(List QT)) (a1:Int) (a2:Int) (kf:Bool→Option aa):Option aa:=
 NH N a0 a1 (fun dy=>
  bif (decide (dy≥(0:Int))) then
   bif (aO dy (List.length a0)) then
    S82 N (List.getD a0 (Int.toNat dy) ak).2.2.2.2.2 a2 kf
   else none
  else
   kf false)
noncomputable def I77 (N:Nat) (a0:(List QT)) (a1:Int) (a2:Int) (kf:Bool→Option aa):Option aa:=
 NH N a0 a1 (fun cw=>
  NH N a0 a2 (fun cI=>
   AB N a0 (fun rn=>
    bif rn then
     bif (decide (cw≥(0:Int))) then
      bif (decide (cI≥(0:Int))) then
       bif (cw != cI) then
        bif (aO cw (List.length a0)) then
         bif (aO cI (List.length a0)) then
          bif ((List.getD a0 (Int.toNat cw) ak).2.1 != (List.getD a0 (Int.toNat cI) ak).2.1) then
           I19 N a0 a1 a2 (fun ac7=>
            kf (!ac7))
          else
           kf false
         else none
        else none
       else
        kf false
      else
       kf false
     else
      kf false
    else
     kf false)))
noncomputable def qe (N:Nat) (j8:(List Int)) (jI:(List QT)) (ac8:Int):Nat→(Option aa)→(Bool→Option aa)→Int→Option aa
 |0,_,_,_=>none
 |axe+1,oT,oU,Jl=>
  bif (decide (Jl<ac8)) then
   bif (aO Jl (List.length jI)) then
    I78 N j8 (List.getD jI (Int.toNat Jl) ak).1 (fun Se=>
     bif (Se != (1:Int)) then
      oU false
     else
      (qe N j8 jI ac8 axe oT oU) (IntKind.wrap .i64 (Jl+(1:Int))))
   else none
  else
   oT
noncomputable def vu (N:Nat) (ae:(List QT)) (fk:(List br)) (bJ:Int):Nat→((List Int)→Option aa)→(Bool→Option aa)→(List Int)→Int→Option aa
 |0,_,_,_,_=>none
 |Jf+1,cq,fL,ft,j9=>
  bif (decide (j9<bJ)) then
   bif (aO j9 (List.length fk)) then
    I77 N ae (List.getD fk (Int.toNat j9) cO).1 (List.getD fk (Int.toNat j9) cO).2 (fun lf=>
     bif (!lf) then
      fL false
     else
      bif (decide ((List.length ft+List.length [(List.getD fk (Int.toNat j9) cO).1,(List.getD fk (Int.toNat j9) cO).2])*1≤4398046511104)) then
       (vu N ae fk bJ Jf cq fL) (ft++[(List.getD fk (Int.toNat j9) cO).1,(List.getD fk (Int.toNat j9) cO).2]) (IntKind.wrap .i64 (j9+(1:Int)))
      else none)
   else none
  else
   cq ft
noncomputable def I17 (N:Nat) (a0:(List QT)) (a1:(List br)) (kf:Bool→Option aa):Option aa:=
 vu N a0 a1 (List.length a1:Int) N (fun avm=>
  qe N avm a0 (List.length a0:Int) N (kf true) kf (0:Int)) kf ([]:(List Int)) (0:Int)
noncomputable def I81 (N:Nat) (a0:QJ) (a1:Int) (kf:Bool→Option aa):Option aa:=
 kf (a0.1==a1)
noncomputable def vw (N:Nat) (ae:(List QJ)) (aw:Int) (sw:Int):Nat→(Option aa)→(Int→Option aa)→Int→Option aa
 |0,_,_,_=>none
 |jU+1,fh,fi,fK=>
  bif (decide (fK<sw)) then
   bif (aO fK (List.length ae)) then
    I81 N (List.getD ae (Int.toNat fK) ck) aw (fun mP=>
     bif mP then
      fi fK
     else
      (vw N ae aw sw jU fh fi) (IntKind.wrap .i64 (fK+(1:Int))))
   else none
  else
   fh
noncomputable def S80 (N:Nat) (a0:(List QJ)) (acZ:Int) (kf:Int→Option aa):Option aa:=
 vw N a0 acZ (List.length a0:Int) N (kf (-1:Int)) kf (0:Int)
noncomputable def vz (N:Nat) (ae:(List QT)) (AF:QJ) (mR:(List Int)) (apk:Int):Nat→(Option aa)→(Bool→Option aa)→Int→Option aa
 |0,_,_,_=>none
 |Jf+1,sA,kM,iq=>
  bif (decide (iq<apk)) then
   bif (aO iq (List.length mR)) then
    NH N ae (List.getD mR (Int.toNat iq) (0:Int)) (fun lf=>
     bif (decide (lf<(0:Int))) then
      kM false
     else
      bif (aO lf (List.length ae)) then
       bif ((List.getD ae (Int.toNat lf) ak).2.1==AF.2.1) then
        kM false
       else
        S82 N AF.2.2 (List.getD mR (Int.toNat iq) (0:Int)) (fun sz=>
         bif sz then
          kM false
         else
          (vz N ae AF mR apk Jf sA kM) (IntKind.wrap .i64 (iq+(1:Int))))
      else none)
   else none
  else
   sA
noncomputable def I83 (N:Nat) (a0:(List QT)) (a1:QJ) (a2:br) (kf:Bool→Option aa):Option aa:=
 vz N a0 a1 [a2.1,a2.2] (List.length [a2.1,a2.2]:Int) N (kf true) kf (0:Int)
noncomputable def vA (N:Nat) (vB:(List QT)) (jW:(List QJ)) (ky:(List br)) (jk:(List Int)) (mS:(List Int)) (apl:Int):Nat→(Option aa)→(Bool→Option aa)→Int→Option aa
 |0,_,_,_=>none
 |n_9+1,tF,kN,uC=>
  bif (decide (uC<apl)) then
   bif (aO uC (List.length mS)) then
    S80 N jW (List.getD mS (Int.toNat uC) (0:Int)) (fun vC=>
     bif (decide (vC<(0:Int))) then
      kN false
     else
      bif (decide ((0:Int)≤(0:Int))&&decide ((0:Int)≤uC)&&decide (uC≤(List.length jk:Int))) then
       S82 N (List.drop (Int.toNat (0:Int)) (List.take (Int.toNat uC) jk)) (List.getD mS (Int.toNat uC) (0:Int)) (fun Sf=>
        bif Sf then
         kN false
        else
         bif (aO vC (List.length jW)) then
          bif (aO uC (List.length ky)) then
           I83 N vB (List.getD jW (Int.toNat vC) ck) (List.getD ky (Int.toNat uC) cO) (fun Sg=>
            bif (!Sg) then
             kN false
            else
             (vA N vB jW ky jk mS apl n_9 tF kN) (IntKind.wrap .i64 (uC+(1:Int))))
          else none
         else none)
      else none)
   else none
  else
   tF
noncomputable def I18 (N:Nat) (a0:(List QT)) (a1:(List QJ)) (a2:(List br)) (a3:(List Int)) (kf:Bool→Option aa):Option aa:=
 I79 N a1 (fun eI=>
  bif (!eI) then
   kf false
  else
   bif ((List.length a3:Int) != (List.length a2:Int)) then
    kf false
   else
    vA N a0 a1 a2 a3 a3 (List.length a3:Int) N (kf true) kf (0:Int))
noncomputable def NN (N:Nat) (a0:QB) (kf:Bool→Option aa):Option aa:=
 eX N a0.1 (1:Int) (99:Int) (fun EY=>
  bif EY then
   eX N a0.2.1 (0:Int) (100:Int) (fun arf=>
    bif arf then
     eX N a0.2.2 (0:Int) (100:Int) (fun NO=>
      bif NO then
       kf (a0.2.1 != a0.2.2)
      else
       kf false)
    else
     kf false)
  else
   kf false)
noncomputable def qf (ld:(List QT)) (oQ:Int):Nat→(Int→Option aa)→Int→Int→Option aa
 |0,_,_,_=>none
 |Jf+1,AG,aC,VU=>
  bif (decide (VU<oQ)) then
   bif (aO VU (List.length ld)) then
    (qf ld oQ Jf AG) (IntKind.wrap .i64 (aC+(List.getD ld (Int.toNat VU) ak).2.2.1)) (IntKind.wrap .i64 (VU+(1:Int)))
   else none
  else
   AG aC
noncomputable def aiE (N:Nat) (a0:(List QT)) (kf:Int→Option aa):Option aa:=
 AB N a0 (fun EX=>
  bif (!EX) then
   kf (0:Int)
  else
   qf a0 (List.length a0:Int) N kf (0:Int) (0:Int))
noncomputable def sB (N:Nat) (iR:QC) (jJ:(List QB)) (ac9:Int):Nat→(Option aa)→(Bool→Option aa)→Int→Option aa
 |0,_,_,_=>none
 |Sh+1,qg,lV,mT=>
  bif (decide (mT<ac9)) then
   bif (aO mT (List.length jJ)) then
    bif (!((decide (((List.getD jJ (Int.toNat mT) fg).1:Int)=(0:Int)))&&((decide (((List.getD jJ (Int.toNat mT) fg).2.1:Int)=(0:Int)))&&(decide (((List.getD jJ (Int.toNat mT) fg).2.2:Int)=(0:Int)))))) then
     NN N (List.getD jJ (Int.toNat mT) fg) (fun Si=>
      bif (!Si) then
       lV false
      else
       bif (aO mT (List.length iR.2.2.2.1)) then
        bif ((List.getD jJ (Int.toNat mT) fg).1 != (List.getD iR.2.2.2.1 (Int.toNat mT) (0:Int))) then
         lV false
        else
         (sB N iR jJ ac9 Sh qg lV) (IntKind.wrap .i64 (mT+(1:Int)))
       else none)
    else
     (sB N iR jJ ac9 Sh qg lV) (IntKind.wrap .i64 (mT+(1:Int)))
   else none
  else
   qg
noncomputable def Jm (N:Nat) (a0:QC) (kf:Bool→Option aa):Option aa:=
 sB N a0 a0.2.2.2.2.1 (List.length a0.2.2.2.2.1:Int) N (
  eX N a0.2.2.2.2.2.2 (0:Int) (1000:Int) (fun arh=>
   bif arh then
    aiE N a0.1 (fun vD=>
     kf (vD==a0.2.2.2.2.2.2))
   else
    kf false)) kf (0:Int)
noncomputable def I39 (N:Nat) (a0:QC) (kf:Bool→Option aa):Option aa:=
 AB N a0.1 (fun EX=>
  bif (!EX) then
   kf false
  else
   I79 N a0.2.1 (fun NP=>
    bif (!NP) then
     kf false
    else
     I75 N a0.2.2.2.2.2.1 (fun E5=>
      bif (!E5) then
       kf false
      else
       bif ((List.length a0.2.2.2.1:Int) != (List.length a0.2.2.1:Int)) then
        kf false
       else
        bif ((List.length a0.2.2.2.2.1:Int) != (List.length a0.2.2.1:Int)) then
         kf false
        else
         R4 N a0 (fun avn=>
          bif avn then
           I17 N a0.1 a0.2.2.1 (fun avo=>
            bif (!avo) then
             kf false
            else
             I18 N a0.1 a0.2.1 a0.2.2.1 a0.2.2.2.1 (fun avp=>
              bif (!avp) then
               kf false
              else
               Jm N a0 kf))
          else
           Jm N a0 kf))))
noncomputable def Jn (N:Nat) (a0:QC) (a1:QC) (a2:Int) (a3:Int) (kf:QC→Bool→Option aa):Option aa:=
 aiD N a1.2.2.2.2.2.1 a2 a3 (fun apm oV=>
  bif (!oV) then
   H4 N a0 (fun ac'=>
    kf ac' false)
  else
   I39 N a0 (fun aE=>
    bif (!aE) then
     H4 N a0 (fun ac'=>
      kf ac' false)
    else
     I39 N (a1.1,(a1.2.1,(a1.2.2.1,(a1.2.2.2.1,(a1.2.2.2.2.1,(apm,a1.2.2.2.2.2.2)))))) (fun avq=>
      bif (!avq) then
       H4 N a0 (fun NQ=>
        kf NQ false)
      else
       kf (a1.1,(a1.2.1,(a1.2.2.1,(a1.2.2.2.1,(a1.2.2.2.2.1,(apm,a1.2.2.2.2.2.2)))))) true)))
noncomputable def sC (Zi:Int) (aiF:Int) (aiG:QC) (aiH:QC) (xG:QC):Nat→(Int→Option aa)→Int→Option aa
 |0,_,_=>none
 |Zj+1,nD,Zk=>
  bif (decide (Zk<(List.length xG.1:Int))) then
   bif (aO Zk (List.length xG.1)) then
    bif (decide ((List.getD xG.1 (Int.toNat Zk) ak).1<Zi)) then
     (sC Zi aiF aiG aiH xG Zj nD) (IntKind.wrap .i64 (Zk+(1:Int)))
    else
     nD Zk
   else none
  else
   nD Zk
noncomputable def I30 (N:Nat) (a0:QC) (a1:Int) (a2:Int) (kf:QC→Bool→Option aa):Option aa:=
 H4 N a0 (fun cw=>
  NH N a0.1 a1 (fun NR=>
   bif (decide (NR≥(0:Int))) then
    kf cw false
   else
    R4 N a0 (fun NS=>
     bif NS then
      kf cw false
     else
      sC a1 a2 a0 (([]:(List QT)),(([]:(List QJ)),(([]:(List br)),(([]:(List Int)),(([]:(List QB)),(([]:(List QL)),(0:Int))))))) cw N (fun avr=>
       aiz N cw.1 avr [(a1,(a2,((0:Int),((0:Int),((0:Int),([]:(List Int)))))))] (fun ari=>
        Jn N a0 (ari,cw.2) (1:Int) a1 kf)) (0:Int))))
noncomputable def aiI (N:Nat) (a0:QJ) (a1:Int) (kf:Bool→Option aa):Option aa:=
 kf (a0.1==a1)
noncomputable def qh (N:Nat) (ae:(List QJ)) (aw:Int) (sw:Int):Nat→(Option aa)→(Int→Option aa)→Int→Option aa
 |0,_,_,_=>none
 |jU+1,fh,fi,fK=>
  bif (decide (fK<sw)) then
   bif (aO fK (List.length ae)) then
    aiI N (List.getD ae (Int.toNat fK) ck) aw (fun mP=>
     bif mP then
      fi fK
     else
      (qh N ae aw sw jU fh fi) (IntKind.wrap .i64 (fK+(1:Int))))
   else none
  else
   fh
noncomputable def arj (N:Nat) (a0:(List QJ)) (acZ:Int) (kf:Int→Option aa):Option aa:=
 qh N a0 acZ (List.length a0:Int) N (kf (-1:Int)) kf (0:Int)
noncomputable def Sj (N:Nat) (a0:(List QJ)) (a1:Int) (kf:Int→Option aa):Option aa:=
 arj N a0 a1 kf
noncomputable def aiJ (N:Nat) (a0:(List QJ)) (a1:Int) (a2:(List QJ)) (kf:(List QJ)→Option aa):Option aa:=
 bif (decide ((0:Int)≤a1)&&(decide (a1≤(List.length a0:Int))&&(Nat.blt 0 (List.length a2)&&Nat.ble ((List.length a0+List.length a2)*Ty.size iN) 4398046511104))) then
  kf (List.take (Int.toNat a1) a0++a2++List.drop (Int.toNat a1) a0)
 else none
noncomputable def sD (jW:Int) (ky:Int) (jk:QC) (aiK:QC) (xH:QC):Nat→(Int→Option aa)→Int→Option aa
 |0,_,_=>none
 |n_9+1,e7,Zl=>
  bif (decide (Zl<(List.length xH.2.1:Int))) then
   bif (aO Zl (List.length xH.2.1)) then
    bif (decide ((List.getD xH.2.1 (Int.toNat Zl) ck).1<jW)) then
     (sD jW ky jk aiK xH n_9 e7) (IntKind.wrap .i64 (Zl+(1:Int)))
    else
     e7 Zl
   else none
  else
   e7 Zl
noncomputable def I32 (N:Nat) (a0:QC) (a1:Int) (a2:Int) (kf:QC→Bool→Option aa):Option aa:=
 H4 N a0 (fun cw=>
  Sj N a0.2.1 a1 (fun NR=>
   bif (decide (NR≥(0:Int))) then
    kf cw false
   else
    sD a1 a2 a0 (([]:(List QT)),(([]:(List QJ)),(([]:(List br)),(([]:(List Int)),(([]:(List QB)),(([]:(List QL)),(0:Int))))))) cw N (fun avs=>
     aiJ N cw.2.1 avs [(a1,(a2,([]:(List Int))))] (fun ark=>
      Jn N a0 (cw.1,(ark,cw.2.2)) (2:Int) a1 kf)) (0:Int)))
noncomputable def aiL (N:Nat) (a0:(List QT)) (kf:(List QT)→Option aa):Option aa:=
 bif (List.isEmpty a0) then
  both (kf ([]:(List QT))) (
   bif (decide ((List.length ([]:(List QT))+List.length a0)*6≤4398046511104)) then
    kf (([]:(List QT))++a0)
   else none)
 else
  bif (decide ((List.length ([]:(List QT))+List.length a0)*6≤4398046511104)) then
   kf (([]:(List QT))++a0)
  else none
noncomputable def Jo (kf:Int→Option aa) (avt:Int) (axf:Int):Option aa:=
 bif (aO (IntKind.wrap .u8 avt) (ByteArray.size aJ)) then
  kf (IntKind.wrap .i64 (axf+(IntKind.wrap .i64 (bt aJ (IntKind.wrap .u8 avt)))))
 else none
noncomputable def Jp (kf:Int→Option aa) (arl:Int) (avu:Int):Option aa:=
 bif (decide (arl≥(256:Int))) then
  bif (decide (0≤(8:Int))) then
   Jo kf (Int.fdiv arl (2^(min (Int.toNat (8:Int)) (IntKind.bits .u64)))) (IntKind.wrap .i64 (avu+(8:Int)))
  else none
 else
  Jo kf arl avu
noncomputable def Jq (kf:Int→Option aa) (arn:Int) (avv:Int):Option aa:=
 bif (decide (arn≥(65536:Int))) then
  bif (decide (0≤(16:Int))) then
   Jp kf (Int.fdiv arn (2^(min (Int.toNat (16:Int)) (IntKind.bits .u64)))) (IntKind.wrap .i64 (avv+(16:Int)))
  else none
 else
  Jp kf arn avv
noncomputable def aro (N:Nat) (a0:Int) (kf:Int→Option aa):Option aa:=
 bif (decide (a0≥(4294967296:Int))) then
  bif (decide (0≤(32:Int))) then
   Jq kf (Int.fdiv a0 (2^(min (Int.toNat (32:Int)) (IntKind.bits .u64)))) (32:Int)
  else none
 else
  Jq kf a0 (0:Int)
noncomputable def aiM (N:Nat) (a0:Int) (kf:Int→Option aa):Option aa:=
 aro N a0 kf
noncomputable def aiN (N:Nat) (a0:Int) (kf:Bool→Option aa):Option aa:=
 kf (a0 != a0)
noncomputable def Zm (N:Nat) (a0:Int) (a1:Int) (kf:Int→Option aa):Option aa:=
 aiN N a0 (fun ac0=>
  aiN N a1 (fun NT=>
   bif ac0 then
    bif NT then
     kf (0:Int)
    else
     kf (-1:Int)
   else
    bif NT then
     kf (1:Int)
    else
     bif (decide (a0<a1)) then
      kf (-1:Int)
     else
      bif (decide (a0>a1)) then
       kf (1:Int)
      else
       kf (0:Int)))
noncomputable def qi (bu:Int) (jh:(List Int)) (sw:Int):Nat→(Option aa)→(Int→Option aa)→Int→Option aa
 |0,_,_,_=>none
 |jU+1,eA,AH,fK=>
  bif (decide (fK<sw)) then
   bif (aO fK (List.length jh)) then
    bif ((List.getD jh (Int.toNat fK) (0:Int)) != bu) then
     AH (List.getD jh (Int.toNat fK) (0:Int))
    else
     (qi bu jh sw jU eA AH) (IntKind.wrap .i64 (fK+(1:Int)))
   else none
  else
   eA
noncomputable def aiO (N:Nat) (a0:(List Int)) (kf:Int→Option aa):Option aa:=
 qi (0:Int) a0 (List.length a0:Int) N (kf (0:Int)) kf (0:Int)
noncomputable def aiP (N:Nat) (a0:QT) (a1:QT) (kf:Int→Option aa):Option aa:=
 Zm N a1.2.2.1 a0.2.2.1 (fun iO=>
  Zm N a1.2.2.2.1 a0.2.2.2.1 (fun cI=>
   Zm N a0.1 a1.1 (fun NS=>
    aiO N [iO,cI,NS] kf)))
noncomputable def tG (N:Nat) (iR:Int) (Zn:Int) (axg:Int):Nat→((List QT)→Option aa)→(List QT)→Int→Option aa
 |0,_,_,_=>none
 |Sh+1,Jr,er,nE=>
  bif (decide (nE>iR)) then
   bif (aO nE (List.length er)) then
    bif (aO (IntKind.wrap .i64 (nE - (1:Int))) (List.length er)) then
     aiP N (List.getD er (Int.toNat nE) ak) (List.getD er (Int.toNat (IntKind.wrap .i64 (nE - (1:Int)))) ak) (fun arp=>
      bif (decide (arp<(0:Int))) then
       bif (aO (IntKind.wrap .i64 (nE - (1:Int))) (List.length er)) then
        bif (aO nE (List.length er)) then
         bif (aO nE (List.length er)) then
          share (List.set er (Int.toNat nE) (List.getD er (Int.toNat (IntKind.wrap .i64 (nE - (1:Int)))) ak)) (fun apn=>
           bif (aO (IntKind.wrap .i64 (nE - (1:Int))) (List.length apn)) then
            share (List.set apn (Int.toNat (IntKind.wrap .i64 (nE - (1:Int)))) (List.getD er (Int.toNat nE) ak)) (fun avw=>
             (tG N iR Zn axg Sh Jr) avw (IntKind.wrap .i64 (nE - (1:Int))))
           else none)
         else none
        else none
       else none
      else
       Jr er)
    else none
   else none
  else
   Jr er
noncomputable def qj (N:Nat) (aw:Int) (fu:Int):Nat→((List QT)→Option aa)→(List QT)→Int→Option aa
 |0,_,_,_=>none
 |jU+1,VV,ae,fK=>
  bif (decide (fK<fu)) then
   tG N aw fu fK N (fun avx=>
    (qj N aw fu jU VV) avx (IntKind.wrap .i64 (fK+(1:Int)))) ae fK
  else
   VV ae
noncomputable def arq (N:Nat) (a0:(List QT)) (a1:Int) (a2:Int) (kf:(List QT)→Option aa):Option aa:=
 qj N a1 a2 N kf a0 (IntKind.wrap .i64 (a1+(1:Int)))
noncomputable def Js (N:Nat) (ae:(List QT)) (aw:Int) (fu:Int) (cy:Int) (eZ:Bool) (axK:Bool):Nat→((List QT)→Option aa)→Option aa
 |0,_=>none
 |VW+1,sA=>
  bif (decide ((IntKind.wrap .i64 (fu - aw))≤(12:Int))) then
   arq N ae aw fu sA
  else
   bif (cy==(0:Int)) then
    none
   else
    bif (!eZ) then
     none
    else none
noncomputable def aiQ (N:Nat) (a0:(List QT)) (a1:Int) (a2:Int) (a3:Int) (kf:(List QT)→Option aa):Option aa:=
 Js N a0 a1 a2 a3 true true N kf
noncomputable def aiR (N:Nat) (a0:(List QT)) (kf:(List QT)→Option aa):Option aa:=
 aiM N (IntKind.wrap .u64 (List.length a0:Int)) (fun cw=>
  aiQ N a0 (0:Int) (List.length a0:Int) cw kf)
noncomputable def qk (iq:(List QT)) (apo:Int):Nat→((List Int)→Option aa)→(List Int)→Int→Option aa
 |0,_,_,_=>none
 |n_8+1,AI,cy,NU=>
  bif (decide (NU<apo)) then
   bif (aO NU (List.length iq)) then
    bif (decide ((List.length cy+List.length [(List.getD iq (Int.toNat NU) ak).1])*1≤4398046511104)) then
     (qk iq apo n_8 AI) (cy++[(List.getD iq (Int.toNat NU) ak).1]) (IntKind.wrap .i64 (NU+(1:Int)))
    else none
   else none
  else
   AI cy
noncomputable def ada (N:Nat) (a0:(List QT)) (kf:(List Int)→Option aa):Option aa:=
 AB N a0 (fun iO=>
  bif (!iO) then
   kf ([]:(List Int))
  else
   aiL N a0 (fun gp=>
    aiR N gp (fun aiS=>
     qk aiS (List.length aiS:Int) N kf ([]:(List Int)) (0:Int))))
noncomputable def ars (N:Nat) (a0:(List Int)) (a1:Int) (kf:(List Int)→Option aa):Option aa:=
 bif (List.isEmpty a0&&(decide ((0:Int)≤a1)&&decide (a1≤(549755813888:Int)))) then
  kf ([]:List Int)
 else none
noncomputable def lg (iS:(List (List Int))) (adb:Int):Nat→((List Int)→Option aa)→(List Int)→Int→Option aa
 |0,_,_,_=>none
 |axh+1,oW,lO,E6=>
  bif (decide (E6<adb)) then
   bif (aO E6 (List.length iS)) then
    bif (decide ((List.length lO+List.length (List.getD iS (Int.toNat E6) ([]:(List Int))))*1≤4398046511104)) then
     (lg iS adb axh oW) (lO++(List.getD iS (Int.toNat E6) ([]:(List Int)))) (IntKind.wrap .i64 (E6+(1:Int)))
    else none
   else none
  else
   oW lO
noncomputable def qm (ae:(List (List Int))) (mU:(List (List Int))) (bK:Int):Nat→(Int→Option aa)→Int→Int→Option aa
 |0,_,_,_=>none
 |Jf+1,bB,aC,rp=>
  bif (decide (rp<bK)) then
   bif (aO rp (List.length mU)) then
    bif (decide ((IntKind.wrap .i64 (aC+(List.length (List.getD mU (Int.toNat rp) ([]:(List Int))):Int)))<(0:Int))) then
     none
    else
     (qm ae mU bK Jf bB) (IntKind.wrap .i64 (aC+(List.length (List.getD mU (Int.toNat rp) ([]:(List Int))):Int))) (IntKind.wrap .i64 (rp+(1:Int)))
   else none
  else
   bB aC
noncomputable def aiT (N:Nat) (a0:(List (List Int))) (kf:(List Int)→Option aa):Option aa:=
 qm a0 a0 (List.length a0:Int) N (fun axi=>
  ars N ([]:(List Int)) axi (fun art=>
   lg a0 (List.length a0:Int) N kf art (0:Int))) (0:Int) (0:Int)
noncomputable def aiU (N:Nat) (a0:(List QT)) (a1:Int) (a2:Int) (kf:br→Option aa):Option aa:=
 NH N a0 a1 (fun NV=>
  NH N a0 a2 (fun NW=>
   AB N a0 (fun NS=>
    bif (!NS) then
     kf ((0:Int),(0:Int))
    else
     bif (decide (NV<(0:Int))) then
      kf ((0:Int),(0:Int))
     else
      bif (decide (NW<(0:Int))) then
       kf ((0:Int),(0:Int))
      else
       bif (NV==NW) then
        kf ((0:Int),(0:Int))
       else
        bif (aO NV (List.length a0)) then
         bif (aO NW (List.length a0)) then
          ada N a0 (fun apq=>
           bif (decide ((List.getD a0 (Int.toNat NV) ak).2.2.2.2.1<(List.getD a0 (Int.toNat NW) ak).2.2.2.2.1)) then
            kf (a1,a2)
           else
            bif ((List.getD a0 (Int.toNat NV) ak).2.2.2.2.1==(List.getD a0 (Int.toNat NW) ak).2.2.2.2.1) then
             Sd N apq a1 (fun avy=>
              Sd N apq a2 (fun avz=>
               bif (decide (avy<avz)) then
                kf (a1,a2)
               else
                kf (a2,a1)))
            else
             kf (a2,a1))
         else none
        else none)))
noncomputable def qn (N:Nat) (self:(List QT)→(List Int)→((List br)→Bool→Option aa)→Option aa) (ae:(List QT)) (aw:(List Int)):Nat→(Option aa)→((List br)→Bool→Option aa)→Int→Option aa
 |0,_,_,_=>none
 |Ax+1,Jt,Ju,jn=>
  bif (decide (jn<(List.length aw:Int))) then
   bif (aO (0:Int) (List.length aw)) then
    bif (aO jn (List.length aw)) then
     I77 N ae (List.getD aw (Int.toNat (0:Int)) (0:Int)) (List.getD aw (Int.toNat jn) (0:Int)) (fun Cs=>
      bif (!Cs) then
       (qn N self ae aw Ax Jt Ju) (IntKind.wrap .i64 (jn+(1:Int)))
      else
       bif (decide ((0:Int)≤(1:Int))&&decide ((1:Int)≤jn)&&decide (jn≤(List.length aw:Int))) then
        bif (decide ((0:Int)≤(IntKind.wrap .i64 (jn+(1:Int))))&&decide ((IntKind.wrap .i64 (jn+(1:Int)))≤(List.length aw:Int))&&decide ((List.length aw:Int)≤(List.length aw:Int))) then
         aiT N [(List.drop (Int.toNat (1:Int)) (List.take (Int.toNat jn) aw)),(List.drop (Int.toNat (IntKind.wrap .i64 (jn+(1:Int)))) (List.take (Int.toNat (List.length aw:Int)) aw))] (fun avA=>
          self ae avA (fun VX avB=>
           bif avB then
            bif (aO (0:Int) (List.length aw)) then
             bif (aO jn (List.length aw)) then
              aiU N ae (List.getD aw (Int.toNat (0:Int)) (0:Int)) (List.getD aw (Int.toNat jn) (0:Int)) (fun apr=>
               bif (decide ((List.length [apr]+List.length VX)*2≤4398046511104)) then
                Ju ([apr]++VX) true
               else none)
             else none
            else none
           else
            (qn N self ae aw Ax Jt Ju) (IntKind.wrap .i64 (jn+(1:Int)))))
        else none
       else none)
    else none
   else none
  else
   Jt
noncomputable def Sk (self:(List QT)→(List Int)→((List br)→Bool→Option aa)→Option aa) (N:Nat) (a0:(List QT)) (a1:(List Int)) (kf:(List br)→Bool→Option aa):Option aa:=
 bif ((List.length a1:Int)==(0:Int)) then
  kf ([]:(List br)) true
 else
  qn N self a0 a1 N (kf ([]:(List br)) false) kf (1:Int)
noncomputable def Sl:Nat→(List QT)→(List Int)→((List br)→Bool→Option aa)→Option aa
 |0,_,_,_=>none
 |N+1,a0,a1,kf=>Sk (Sl N) N a0 a1 kf
noncomputable def aiV (N:Nat) (a0:(List QT)) (kf:(List br)→Bool→Option aa):Option aa:=
 AB N a0 (fun EY=>
  bif (!EY) then
   kf ([]:(List br)) false
  else
   bif ((Int.tmod (List.length a0:Int) (2:Int))==(1:Int)) then
    kf ([]:(List br)) false
   else
    ada N a0 (fun oV=>
     Sl N a0 oV kf))
noncomputable def nF (N:Nat) (self:(List QT)→(List QJ)→(List br)→(List Int)→((List Int)→Bool→Option aa)→Option aa) (ae:(List QT)) (aw:(List QJ)) (fu:(List br)) (cy:(List Int)) (uD:(List QJ)) (VY:Int):Nat→(Option aa)→((List Int)→Bool→Option aa)→Int→Option aa
 |0,_,_,_=>none
 |n_8+1,Dn,Dp,sE=>
  bif (decide (sE<VY)) then
   bif (aO sE (List.length uD)) then
    S82 N cy (List.getD uD (Int.toNat sE) ck).1 (fun avC=>
     bif avC then
      (nF N self ae aw fu cy uD VY n_8 Dn Dp) (IntKind.wrap .i64 (sE+(1:Int)))
     else
      bif (aO (0:Int) (List.length fu)) then
       I83 N ae (List.getD uD (Int.toNat sE) ck) (List.getD fu (Int.toNat (0:Int)) cO) (fun aru=>
        bif (!aru) then
         (nF N self ae aw fu cy uD VY n_8 Dn Dp) (IntKind.wrap .i64 (sE+(1:Int)))
        else
         bif (decide ((0:Int)≤(1:Int))&&decide ((1:Int)≤(List.length fu:Int))&&decide ((List.length fu:Int)≤(List.length fu:Int))) then
          Je N cy (fun ade=>
           bif (decide ((List.length ade+List.length [(List.getD uD (Int.toNat sE) ck).1])*1≤4398046511104)) then
            self ae aw (List.drop (Int.toNat (1:Int)) (List.take (Int.toNat (List.length fu:Int)) fu)) (ade++[(List.getD uD (Int.toNat sE) ck).1]) (fun adf arv=>
             bif arv then
              bif (decide ((List.length [(List.getD uD (Int.toNat sE) ck).1]+List.length adf)*1≤4398046511104)) then
               Dp ([(List.getD uD (Int.toNat sE) ck).1]++adf) true
              else none
             else
              (nF N self ae aw fu cy uD VY n_8 Dn Dp) (IntKind.wrap .i64 (sE+(1:Int))))
           else none)
         else none)
      else none)
   else none
  else
   Dn
noncomputable def Sm (self:(List QT)→(List QJ)→(List br)→(List Int)→((List Int)→Bool→Option aa)→Option aa) (N:Nat) (a0:(List QT)) (a1:(List QJ)) (a2:(List br)) (a3:(List Int)) (kf:(List Int)→Bool→Option aa):Option aa:=
 bif ((List.length a2:Int)==(0:Int)) then
  kf ([]:(List Int)) true
 else
  nF N self a0 a1 a2 a3 a1 (List.length a1:Int) N (kf ([]:(List Int)) false) kf (0:Int)
noncomputable def Sn:Nat→(List QT)→(List QJ)→(List br)→(List Int)→((List Int)→Bool→Option aa)→Option aa
 |0,_,_,_,_,_=>none
 |N+1,a0,a1,a2,a3,kf=>Sm (Sn N) N a0 a1 a2 a3 kf
noncomputable def aiW (N:Nat) (a0:(List QT)) (a1:(List QJ)) (a2:(List br)) (kf:(List Int)→Bool→Option aa):Option aa:=
 I79 N a1 (fun iO=>
  bif (!iO) then
   kf ([]:(List Int)) false
  else
   AB N a0 (fun gp=>
    bif (!gp) then
     kf ([]:(List Int)) false
    else
     bif (decide ((List.length a2:Int)>(List.length a1:Int))) then
      kf ([]:(List Int)) false
     else
      Sn N a0 a1 a2 ([]:(List Int)) kf))
noncomputable def I23 (N:Nat) (a0:QC) (kf:QC→Bool→Option aa):Option aa:=
 H4 N a0 (fun dy=>
  I39 N a0 (fun NP=>
   bif (!NP) then
    kf dy false
   else
    R4 N a0 (fun rn=>
     bif rn then
      kf dy false
     else
      bif ((List.length a0.1:Int)==(0:Int)) then
       kf dy false
      else
       aiV N a0.1 (fun E7 adg=>
        aiW N a0.1 a0.2.1 E7 (fun avD avE=>
         bif (!adg) then
          kf dy false
         else
          bif (!avE) then
           kf dy false
          else
           bif (decide ((List.length E7:Int)=(List.length E7:Int))&&decide ((0:Int)≤(List.length E7:Int))&&decide ((List.length E7:Int)≤1099511627776)) then
            Jn N a0 (dy.1,(dy.2.1,(E7,(avD,((List.replicate (Int.toNat (List.length E7:Int)) ((0:Int),((0:Int),(0:Int)))),dy.2.2.2.2.2))))) (3:Int) (0:Int) kf
           else none)))))
noncomputable def I35 (N:Nat) (a0:QC) (a1:Int) (a2:Int) (a3:Int) (kf:QC→Bool→Option aa):Option aa:=
 H4 N a0 (fun eI=>
  I39 N a0 (fun NR=>
   bif (!NR) then
    kf eI false
   else
    bif (decide (a1<(0:Int))) then
     kf eI false
    else
     bif (decide (a1≥(List.length a0.2.2.1:Int))) then
      kf eI false
     else
      bif (aO a1 (List.length a0.2.2.2.2.1)) then
       bif (!((decide (((List.getD a0.2.2.2.2.1 (Int.toNat a1) fg).1:Int)=(0:Int)))&&((decide (((List.getD a0.2.2.2.2.1 (Int.toNat a1) fg).2.1:Int)=(0:Int)))&&(decide (((List.getD a0.2.2.2.2.1 (Int.toNat a1) fg).2.2:Int)=(0:Int)))))) then
        kf eI false
       else
        bif (aO a1 (List.length a0.2.2.2.1)) then
         NN N ((List.getD a0.2.2.2.1 (Int.toNat a1) (0:Int)),(a2,a3)) (fun avF=>
          bif (!avF) then
           kf eI false
          else
           bif (aO a1 (List.length eI.2.2.2.2.1)) then
            Jn N a0 (eI.1,(eI.2.1,(eI.2.2.1,(eI.2.2.2.1,((List.set eI.2.2.2.2.1 (Int.toNat a1) ((List.getD a0.2.2.2.1 (Int.toNat a1) (0:Int)),(a2,a3))),eI.2.2.2.2.2))))) (4:Int) (List.getD a0.2.2.2.1 (Int.toNat a1) (0:Int)) kf
           else none)
        else none
      else none))
noncomputable def sF (gS:(List QB)) (mU:Int):Nat→((List Int)→Option aa)→(List Int)→Int→Option aa
 |0,_,_,_=>none
 |jU+1,bB,bu,bK=>
  bif (decide (bK<mU)) then
   bif (aO bK (List.length gS)) then
    bif ((decide (((List.getD gS (Int.toNat bK) fg).1:Int)=(0:Int)))&&((decide (((List.getD gS (Int.toNat bK) fg).2.1:Int)=(0:Int)))&&(decide (((List.getD gS (Int.toNat bK) fg).2.2:Int)=(0:Int))))) then
     bif (decide ((List.length bu+List.length [bK])*1≤4398046511104)) then
      (sF gS mU jU bB) (bu++[bK]) (IntKind.wrap .i64 (bK+(1:Int)))
     else none
    else
     (sF gS mU jU bB) bu (IntKind.wrap .i64 (bK+(1:Int)))
   else none
  else
   bB bu
noncomputable def I41 (N:Nat) (a0:QC) (kf:(List Int)→Option aa):Option aa:=
 sF a0.2.2.2.2.1 (List.length a0.2.2.2.2.1:Int) N kf ([]:(List Int)) (0:Int)
noncomputable def nG (N:Nat) (ae:(List QB)) (gS:(List QB)) (mU:Int):Nat→(Option aa)→(Bool→Option aa)→Int→Option aa
 |0,_,_,_=>none
 |jU+1,cT,dR,bK=>
  bif (decide (bK<mU)) then
   bif (aO bK (List.length gS)) then
    NN N (List.getD gS (Int.toNat bK) fg) (fun mP=>
     bif (!mP) then
      dR false
     else
      bif (decide (bK>(0:Int))) then
       bif (aO (IntKind.wrap .i64 (bK - (1:Int))) (List.length ae)) then
        bif (decide ((List.getD gS (Int.toNat bK) fg).1≤(List.getD ae (Int.toNat (IntKind.wrap .i64 (bK - (1:Int)))) fg).1)) then
         dR false
        else
         (nG N ae gS mU jU cT dR) (IntKind.wrap .i64 (bK+(1:Int)))
       else none
      else
       (nG N ae gS mU jU cT dR) (IntKind.wrap .i64 (bK+(1:Int))))
   else none
  else
   cT
noncomputable def Zo (N:Nat) (a0:(List QB)) (kf:Bool→Option aa):Option aa:=
 bif (decide ((List.length a0:Int)>(9:Int))) then
  kf false
 else
  nG N a0 a0 (List.length a0:Int) N (kf true) kf (0:Int)
noncomputable def Zp (N:Nat) (a0:QB) (kf:Int→Option aa):Option aa:=
 bif (decide (a0.2.1>a0.2.2)) then
  kf (1:Int)
 else
  kf (2:Int)
noncomputable def nH (N:Nat) (aw:Int) (bJ:(List QB)) (j9:Int):Nat→(Int→Option aa)→Int→Int→Option aa
 |0,_,_,_=>none
 |VW+1,e7,aK,oX=>
  bif (decide (oX<j9)) then
   bif (aO oX (List.length bJ)) then
    Zp N (List.getD bJ (Int.toNat oX) fg) (fun E8=>
     bif (E8==aw) then
      (nH N aw bJ j9 VW e7) (IntKind.wrap .i64 (aK+(1:Int))) (IntKind.wrap .i64 (oX+(1:Int)))
     else
      (nH N aw bJ j9 VW e7) aK (IntKind.wrap .i64 (oX+(1:Int))))
   else none
  else
   e7 aK
noncomputable def adh (N:Nat) (a0:(List QB)) (a1:Int) (kf:Int→Option aa):Option aa:=
 Zo N a0 (fun iO=>
  bif (!iO) then
   kf (0:Int)
  else
   nH N a1 a0 (List.length a0:Int) N kf (0:Int) (0:Int))
noncomputable def lW (aw:Int) (bJ:(List QB)) (j9:Int):Nat→(Int→Option aa)→Int→Int→Option aa
 |0,_,_,_=>none
 |VW+1,iQ,aK,oX=>
  bif (decide (oX<j9)) then
   bif (aO oX (List.length bJ)) then
    bif (aw==(1:Int)) then
     (lW aw bJ j9 VW iQ) (IntKind.wrap .i64 (aK+(List.getD bJ (Int.toNat oX) fg).2.1)) (IntKind.wrap .i64 (oX+(1:Int)))
    else
     bif (aw==(2:Int)) then
      (lW aw bJ j9 VW iQ) (IntKind.wrap .i64 (aK+(List.getD bJ (Int.toNat oX) fg).2.2)) (IntKind.wrap .i64 (oX+(1:Int)))
     else
      (lW aw bJ j9 VW iQ) aK (IntKind.wrap .i64 (oX+(1:Int)))
   else none
  else
   iQ aK
noncomputable def Sp (N:Nat) (a0:(List QB)) (a1:Int) (kf:Int→Option aa):Option aa:=
 Zo N a0 (fun iO=>
  bif (!iO) then
   kf (0:Int)
  else
   lW a1 a0 (List.length a0:Int) N kf (0:Int) (0:Int))
noncomputable def VZ (N:Nat) (a0:(List QB)) (kf:Int→Option aa):Option aa:=
 bif (aO (0:Int) (List.length a0)) then
  Zp N (List.getD a0 (Int.toNat (0:Int)) fg) kf
 else none
noncomputable def Zq (N:Nat) (a0:(List QB)) (kf:Int→Option aa):Option aa:=
 bif ((List.length a0:Int)==(0:Int)) then
  kf (0:Int)
 else
  Zo N a0 (fun dy=>
   bif (!dy) then
    kf (0:Int)
   else
    adh N a0 (1:Int) (fun cI=>
     adh N a0 (2:Int) (fun rn=>
      Sp N a0 (1:Int) (fun E9=>
       Sp N a0 (2:Int) (fun adi=>
        bif (decide ((IntKind.wrap .i64 (cI - rn))>(0:Int))) then
         kf (1:Int)
        else
         bif ((IntKind.wrap .i64 (cI - rn))==(0:Int)) then
          bif (decide ((IntKind.wrap .i64 (E9 - adi))>(0:Int))) then
           kf (1:Int)
          else
           bif (decide ((IntKind.wrap .i64 (cI - rn))<(0:Int))) then
            kf (2:Int)
           else
            bif (decide ((IntKind.wrap .i64 (E9 - adi))<(0:Int))) then
             kf (2:Int)
            else
             VZ N a0 kf
         else
          bif (decide ((IntKind.wrap .i64 (cI - rn))<(0:Int))) then
           kf (2:Int)
          else
           bif (decide ((IntKind.wrap .i64 (E9 - adi))<(0:Int))) then
            kf (2:Int)
           else
            VZ N a0 kf)))))
noncomputable def Jv (N:Nat) (a0:(List QT)) (a4:Int) (a5:Int) (kf:(List QT)→Bool→Option aa) (ab:Int) (aE:Int) (bg:(List QT)):Option aa:=
 bif (aO ab (List.length bg)) then
  bif (aO ab (List.length bg)) then
   bif (aO aE (List.length (List.set bg (Int.toNat ab) ((List.getD bg (Int.toNat ab) ak).1,((List.getD bg (Int.toNat ab) ak).2.1,((List.getD bg (Int.toNat ab) ak).2.2.1,((IntKind.wrap .i64 ((List.getD bg (Int.toNat ab) ak).2.2.2.1+a4)),(List.getD bg (Int.toNat ab) ak).2.2.2.2))))))) then
    bif (aO aE (List.length (List.set bg (Int.toNat ab) ((List.getD bg (Int.toNat ab) ak).1,((List.getD bg (Int.toNat ab) ak).2.1,((List.getD bg (Int.toNat ab) ak).2.2.1,((IntKind.wrap .i64 ((List.getD bg (Int.toNat ab) ak).2.2.2.1+a4)),(List.getD bg (Int.toNat ab) ak).2.2.2.2))))))) then
     share (List.set (List.set bg (Int.toNat ab) ((List.getD bg (Int.toNat ab) ak).1,((List.getD bg (Int.toNat ab) ak).2.1,((List.getD bg (Int.toNat ab) ak).2.2.1,((IntKind.wrap .i64 ((List.getD bg (Int.toNat ab) ak).2.2.2.1+a4)),(List.getD bg (Int.toNat ab) ak).2.2.2.2))))) (Int.toNat aE) ((List.getD (List.set bg (Int.toNat ab) ((List.getD bg (Int.toNat ab) ak).1,((List.getD bg (Int.toNat ab) ak).2.1,((List.getD bg (Int.toNat ab) ak).2.2.1,((IntKind.wrap .i64 ((List.getD bg (Int.toNat ab) ak).2.2.2.1+a4)),(List.getD bg (Int.toNat ab) ak).2.2.2.2))))) (Int.toNat aE) ak).1,((List.getD (List.set bg (Int.toNat ab) ((List.getD bg (Int.toNat ab) ak).1,((List.getD bg (Int.toNat ab) ak).2.1,((List.getD bg (Int.toNat ab) ak).2.2.1,((IntKind.wrap .i64 ((List.getD bg (Int.toNat ab) ak).2.2.2.1+a4)),(List.getD bg (Int.toNat ab) ak).2.2.2.2))))) (Int.toNat aE) ak).2.1,((List.getD (List.set bg (Int.toNat ab) ((List.getD bg (Int.toNat ab) ak).1,((List.getD bg (Int.toNat ab) ak).2.1,((List.getD bg (Int.toNat ab) ak).2.2.1,((IntKind.wrap .i64 ((List.getD bg (Int.toNat ab) ak).2.2.2.1+a4)),(List.getD bg (Int.toNat ab) ak).2.2.2.2))))) (Int.toNat aE) ak).2.2.1,((IntKind.wrap .i64 ((List.getD (List.set bg (Int.toNat ab) ((List.getD bg (Int.toNat ab) ak).1,((List.getD bg (Int.toNat ab) ak).2.1,((List.getD bg (Int.toNat ab) ak).2.2.1,((IntKind.wrap .i64 ((List.getD bg (Int.toNat ab) ak).2.2.2.1+a4)),(List.getD bg (Int.toNat ab) ak).2.2.2.2))))) (Int.toNat aE) ak).2.2.2.1+a5)),(List.getD (List.set bg (Int.toNat ab) ((List.getD bg (Int.toNat ab) ak).1,((List.getD bg (Int.toNat ab) ak).2.1,((List.getD bg (Int.toNat ab) ak).2.2.1,((IntKind.wrap .i64 ((List.getD bg (Int.toNat ab) ak).2.2.2.1+a4)),(List.getD bg (Int.toNat ab) ak).2.2.2.2))))) (Int.toNat aE) ak).2.2.2.2))))) (fun adj=>
      AB N adj (fun Jw=>
       bif (!Jw) then
        R3 N a0 (fun Jx=>
         kf Jx false)
       else
        kf adj true))
    else none
   else none
  else none
 else none
noncomputable def Zr (N:Nat) (a0:(List QT)) (a1:Int) (a2:Int) (a3:Int) (a4:Int) (a5:Int) (kf:(List QT)→Bool→Option aa):Option aa:=
 R3 N a0 (fun aF=>
  NH N a0 a1 (fun ab=>
   NH N a0 a2 (fun aE=>
    AB N a0 (fun Fa=>
     bif (!Fa) then
      kf aF false
     else
      bif (decide (ab<(0:Int))) then
       kf aF false
      else
       bif (decide (aE<(0:Int))) then
        kf aF false
       else
        bif (ab==aE) then
         kf aF false
        else
         eX N a3 (1:Int) (2:Int) (fun NX=>
          bif (!NX) then
           kf aF false
          else
           eX N a4 (0:Int) (1000:Int) (fun adk=>
            bif (!adk) then
             kf aF false
            else
             eX N a5 (0:Int) (1000:Int) (fun adl=>
              bif (!adl) then
               kf aF false
              else
               bif (aO ab (List.length aF)) then
                bif (aO aE (List.length aF)) then
                 bif (decide ((List.length (List.getD aF (Int.toNat ab) ak).2.2.2.2.2+List.length [a2])*1≤4398046511104)) then
                  bif ((!(Nat.beq (Int.toNat ab) (Int.toNat aE)))&&true) then
                   bif (decide ((List.length (List.getD aF (Int.toNat aE) ak).2.2.2.2.2+List.length [a1])*1≤4398046511104)) then
                    bif (aO ab (List.length aF)) then
                     bif (Nat.beq (Int.toNat ab) (Int.toNat ab)) then
                      bif (aO aE (List.length (List.set aF (Int.toNat ab) ((List.getD aF (Int.toNat ab) ak).1,((List.getD aF (Int.toNat ab) ak).2.1,((List.getD aF (Int.toNat ab) ak).2.2.1,((List.getD aF (Int.toNat ab) ak).2.2.2.1,((List.getD aF (Int.toNat ab) ak).2.2.2.2.1,((List.getD aF (Int.toNat ab) ak).2.2.2.2.2++[a2]))))))))) then
                       bif (Nat.beq (Int.toNat aE) (Int.toNat aE)) then
                        share (List.set (List.set aF (Int.toNat ab) ((List.getD aF (Int.toNat ab) ak).1,((List.getD aF (Int.toNat ab) ak).2.1,((List.getD aF (Int.toNat ab) ak).2.2.1,((List.getD aF (Int.toNat ab) ak).2.2.2.1,((List.getD aF (Int.toNat ab) ak).2.2.2.2.1,((List.getD aF (Int.toNat ab) ak).2.2.2.2.2++[a2]))))))) (Int.toNat aE) ((List.getD (List.set aF (Int.toNat ab) ((List.getD aF (Int.toNat ab) ak).1,((List.getD aF (Int.toNat ab) ak).2.1,((List.getD aF (Int.toNat ab) ak).2.2.1,((List.getD aF (Int.toNat ab) ak).2.2.2.1,((List.getD aF (Int.toNat ab) ak).2.2.2.2.1,((List.getD aF (Int.toNat ab) ak).2.2.2.2.2++[a2]))))))) (Int.toNat aE) ak).1,((List.getD (List.set aF (Int.toNat ab) ((List.getD aF (Int.toNat ab) ak).1,((List.getD aF (Int.toNat ab) ak).2.1,((List.getD aF (Int.toNat ab) ak).2.2.1,((List.getD aF (Int.toNat ab) ak).2.2.2.1,((List.getD aF (Int.toNat ab) ak).2.2.2.2.1,((List.getD aF (Int.toNat ab) ak).2.2.2.2.2++[a2]))))))) (Int.toNat aE) ak).2.1,((List.getD (List.set aF (Int.toNat ab) ((List.getD aF (Int.toNat ab) ak).1,((List.getD aF (Int.toNat ab) ak).2.1,((List.getD aF (Int.toNat ab) ak).2.2.1,((List.getD aF (Int.toNat ab) ak).2.2.2.1,((List.getD aF (Int.toNat ab) ak).2.2.2.2.1,((List.getD aF (Int.toNat ab) ak).2.2.2.2.2++[a2]))))))) (Int.toNat aE) ak).2.2.1,((List.getD (List.set aF (Int.toNat ab) ((List.getD aF (Int.toNat ab) ak).1,((List.getD aF (Int.toNat ab) ak).2.1,((List.getD aF (Int.toNat ab) ak).2.2.1,((List.getD aF (Int.toNat ab) ak).2.2.2.1,((List.getD aF (Int.toNat ab) ak).2.2.2.2.1,((List.getD aF (Int.toNat ab) ak).2.2.2.2.2++[a2]))))))) (Int.toNat aE) ak).2.2.2.1,((List.getD (List.set aF (Int.toNat ab) ((List.getD aF (Int.toNat ab) ak).1,((List.getD aF (Int.toNat ab) ak).2.1,((List.getD aF (Int.toNat ab) ak).2.2.1,((List.getD aF (Int.toNat ab) ak).2.2.2.1,((List.getD aF (Int.toNat ab) ak).2.2.2.2.1,((List.getD aF (Int.toNat ab) ak).2.2.2.2.2++[a2]))))))) (Int.toNat aE) ak).2.2.2.2.1,((List.getD aF (Int.toNat aE) ak).2.2.2.2.2++[a1]))))))) (fun aA=>
                         bif (aO ab (List.length aA)) then
                          bif (aO ab (List.length aA)) then
                           bif (a3==(1:Int)) then
                            bif (aO ab (List.length (List.set aA (Int.toNat ab) ((List.getD aA (Int.toNat ab) ak).1,((List.getD aA (Int.toNat ab) ak).2.1,((List.getD aA (Int.toNat ab) ak).2.2.1,((List.getD aA (Int.toNat ab) ak).2.2.2.1,((IntKind.wrap .i64 ((List.getD aA (Int.toNat ab) ak).2.2.2.2.1+(1:Int))),(List.getD aA (Int.toNat ab) ak).2.2.2.2.2)))))))) then
                             bif (aO ab (List.length (List.set aA (Int.toNat ab) ((List.getD aA (Int.toNat ab) ak).1,((List.getD aA (Int.toNat ab) ak).2.1,((List.getD aA (Int.toNat ab) ak).2.2.1,((List.getD aA (Int.toNat ab) ak).2.2.2.1,((IntKind.wrap .i64 ((List.getD aA (Int.toNat ab) ak).2.2.2.2.1+(1:Int))),(List.getD aA (Int.toNat ab) ak).2.2.2.2.2)))))))) then
                              share (List.set (List.set aA (Int.toNat ab) ((List.getD aA (Int.toNat ab) ak).1,((List.getD aA (Int.toNat ab) ak).2.1,((List.getD aA (Int.toNat ab) ak).2.2.1,((List.getD aA (Int.toNat ab) ak).2.2.2.1,((IntKind.wrap .i64 ((List.getD aA (Int.toNat ab) ak).2.2.2.2.1+(1:Int))),(List.getD aA (Int.toNat ab) ak).2.2.2.2.2)))))) (Int.toNat ab) ((List.getD (List.set aA (Int.toNat ab) ((List.getD aA (Int.toNat ab) ak).1,((List.getD aA (Int.toNat ab) ak).2.1,((List.getD aA (Int.toNat ab) ak).2.2.1,((List.getD aA (Int.toNat ab) ak).2.2.2.1,((IntKind.wrap .i64 ((List.getD aA (Int.toNat ab) ak).2.2.2.2.1+(1:Int))),(List.getD aA (Int.toNat ab) ak).2.2.2.2.2)))))) (Int.toNat ab) ak).1,((List.getD (List.set aA (Int.toNat ab) ((List.getD aA (Int.toNat ab) ak).1,((List.getD aA (Int.toNat ab) ak).2.1,((List.getD aA (Int.toNat ab) ak).2.2.1,((List.getD aA (Int.toNat ab) ak).2.2.2.1,((IntKind.wrap .i64 ((List.getD aA (Int.toNat ab) ak).2.2.2.2.1+(1:Int))),(List.getD aA (Int.toNat ab) ak).2.2.2.2.2)))))) (Int.toNat ab) ak).2.1,((IntKind.wrap .i64 ((List.getD (List.set aA (Int.toNat ab) ((List.getD aA (Int.toNat ab) ak).1,((List.getD aA (Int.toNat ab) ak).2.1,((List.getD aA (Int.toNat ab) ak).2.2.1,((List.getD aA (Int.toNat ab) ak).2.2.2.1,((IntKind.wrap .i64 ((List.getD aA (Int.toNat ab) ak).2.2.2.2.1+(1:Int))),(List.getD aA (Int.toNat ab) ak).2.2.2.2.2)))))) (Int.toNat ab) ak).2.2.1+(1:Int))),(List.getD (List.set aA (Int.toNat ab) ((List.getD aA (Int.toNat ab) ak).1,((List.getD aA (Int.toNat ab) ak).2.1,((List.getD aA (Int.toNat ab) ak).2.2.1,((List.getD aA (Int.toNat ab) ak).2.2.2.1,((IntKind.wrap .i64 ((List.getD aA (Int.toNat ab) ak).2.2.2.2.1+(1:Int))),(List.getD aA (Int.toNat ab) ak).2.2.2.2.2)))))) (Int.toNat ab) ak).2.2.2)))) (fun aV=>
                               Jv N a0 a4 a5 kf ab aE aV)
                             else none
                            else none
                           else
                            bif (aO aE (List.length (List.set aA (Int.toNat ab) ((List.getD aA (Int.toNat ab) ak).1,((List.getD aA (Int.toNat ab) ak).2.1,((List.getD aA (Int.toNat ab) ak).2.2.1,((List.getD aA (Int.toNat ab) ak).2.2.2.1,((IntKind.wrap .i64 ((List.getD aA (Int.toNat ab) ak).2.2.2.2.1+(1:Int))),(List.getD aA (Int.toNat ab) ak).2.2.2.2.2)))))))) then
                             bif (aO aE (List.length (List.set aA (Int.toNat ab) ((List.getD aA (Int.toNat ab) ak).1,((List.getD aA (Int.toNat ab) ak).2.1,((List.getD aA (Int.toNat ab) ak).2.2.1,((List.getD aA (Int.toNat ab) ak).2.2.2.1,((IntKind.wrap .i64 ((List.getD aA (Int.toNat ab) ak).2.2.2.2.1+(1:Int))),(List.getD aA (Int.toNat ab) ak).2.2.2.2.2)))))))) then
                              share (List.set (List.set aA (Int.toNat ab) ((List.getD aA (Int.toNat ab) ak).1,((List.getD aA (Int.toNat ab) ak).2.1,((List.getD aA (Int.toNat ab) ak).2.2.1,((List.getD aA (Int.toNat ab) ak).2.2.2.1,((IntKind.wrap .i64 ((List.getD aA (Int.toNat ab) ak).2.2.2.2.1+(1:Int))),(List.getD aA (Int.toNat ab) ak).2.2.2.2.2)))))) (Int.toNat aE) ((List.getD (List.set aA (Int.toNat ab) ((List.getD aA (Int.toNat ab) ak).1,((List.getD aA (Int.toNat ab) ak).2.1,((List.getD aA (Int.toNat ab) ak).2.2.1,((List.getD aA (Int.toNat ab) ak).2.2.2.1,((IntKind.wrap .i64 ((List.getD aA (Int.toNat ab) ak).2.2.2.2.1+(1:Int))),(List.getD aA (Int.toNat ab) ak).2.2.2.2.2)))))) (Int.toNat aE) ak).1,((List.getD (List.set aA (Int.toNat ab) ((List.getD aA (Int.toNat ab) ak).1,((List.getD aA (Int.toNat ab) ak).2.1,((List.getD aA (Int.toNat ab) ak).2.2.1,((List.getD aA (Int.toNat ab) ak).2.2.2.1,((IntKind.wrap .i64 ((List.getD aA (Int.toNat ab) ak).2.2.2.2.1+(1:Int))),(List.getD aA (Int.toNat ab) ak).2.2.2.2.2)))))) (Int.toNat aE) ak).2.1,((IntKind.wrap .i64 ((List.getD (List.set aA (Int.toNat ab) ((List.getD aA (Int.toNat ab) ak).1,((List.getD aA (Int.toNat ab) ak).2.1,((List.getD aA (Int.toNat ab) ak).2.2.1,((List.getD aA (Int.toNat ab) ak).2.2.2.1,((IntKind.wrap .i64 ((List.getD aA (Int.toNat ab) ak).2.2.2.2.1+(1:Int))),(List.getD aA (Int.toNat ab) ak).2.2.2.2.2)))))) (Int.toNat aE) ak).2.2.1+(1:Int))),(List.getD (List.set aA (Int.toNat ab) ((List.getD aA (Int.toNat ab) ak).1,((List.getD aA (Int.toNat ab) ak).2.1,((List.getD aA (Int.toNat ab) ak).2.2.1,((List.getD aA (Int.toNat ab) ak).2.2.2.1,((IntKind.wrap .i64 ((List.getD aA (Int.toNat ab) ak).2.2.2.2.1+(1:Int))),(List.getD aA (Int.toNat ab) ak).2.2.2.2.2)))))) (Int.toNat aE) ak).2.2.2)))) (fun Sq=>
                               Jv N a0 a4 a5 kf ab aE Sq)
                             else none
                            else none
                          else none
                         else none)
                       else none
                      else none
                     else none
                    else none
                   else none
                  else none
                 else none
                else none
               else none)))))))
noncomputable def Zs (N:Nat) (a0:(List Int)) (kf:(List Int)→Option aa):Option aa:=
 bif (Nat.blt (List.length a0) 4611686018427387904) then
  kf (lN a0)
 else none
noncomputable def adm (N:Nat) (a0:(List Int)) (kf:(List Int)→Option aa):Option aa:=
 kf (dB a0)
noncomputable def vE (N:Nat) (iR:QC) (Zn:QC) (fM:(List br)) (adn:Int):Nat→(QC→Option aa)→(QC→Bool→Option aa)→QC→Int→Option aa
 |0,_,_,_,_=>none
 |arw+1,tH,tI,ir,iT=>
  bif (decide (iT<adn)) then
   bif (aO iT (List.length fM)) then
    bif (aO iT (List.length iR.2.2.2.2.1)) then
     Zq N [(List.getD iR.2.2.2.2.1 (Int.toNat iT) fg)] (fun Fb=>
      Zr N ir.1 (List.getD fM (Int.toNat iT) cO).1 (List.getD fM (Int.toNat iT) cO).2 Fb (List.getD iR.2.2.2.2.1 (Int.toNat iT) fg).2.1 (List.getD iR.2.2.2.2.1 (Int.toNat iT) fg).2.2 (fun Fe Ff=>
       bif (!Ff) then
        H4 N iR (fun Fg=>
         tI Fg false)
       else
        bif (aO iT (List.length iR.2.2.2.1)) then
         Sj N ir.2.1 (List.getD iR.2.2.2.1 (Int.toNat iT) (0:Int)) (fun cU=>
          bif (aO cU (List.length ir.2.1)) then
           bif (decide ((List.length (List.getD ir.2.1 (Int.toNat cU) ck).2.2+List.length [(List.getD fM (Int.toNat iT) cO).1,(List.getD fM (Int.toNat iT) cO).2])*1≤4398046511104)) then
            Zs N ((List.getD ir.2.1 (Int.toNat cU) ck).2.2++[(List.getD fM (Int.toNat iT) cO).1,(List.getD fM (Int.toNat iT) cO).2]) (fun Fh=>
             adm N Fh (fun Fi=>
              bif (aO cU (List.length ir.2.1)) then
               bif (Nat.beq (Int.toNat cU) (Int.toNat cU)) then
                (vE N iR Zn fM adn arw tH tI) (Fe,((List.set ir.2.1 (Int.toNat cU) ((List.getD ir.2.1 (Int.toNat cU) ck).1,((List.getD ir.2.1 (Int.toNat cU) ck).2.1,Fi))),ir.2.2)) (IntKind.wrap .i64 (iT+(1:Int)))
               else none
              else none))
           else none
          else none)
        else none))
    else none
   else none
  else
   tH ir
noncomputable def I28 (N:Nat) (a0:QC) (kf:QC→Bool→Option aa):Option aa:=
 I39 N a0 (fun uE=>
  bif (!uE) then
   H4 N a0 (fun Fa=>
    kf Fa false)
  else
   R4 N a0 (fun oV=>
    bif (!oV) then
     H4 N a0 (fun Fa=>
      kf Fa false)
    else
     I41 N a0 (fun avG=>
      bif (decide ((List.length avG:Int)>(0:Int))) then
       H4 N a0 (fun avH=>
        kf avH false)
      else
       H4 N a0 (fun avI=>
        vE N a0 (([]:(List QT)),(([]:(List QJ)),(([]:(List br)),(([]:(List Int)),(([]:(List QB)),(([]:(List QL)),(0:Int))))))) a0.2.2.1 (List.length a0.2.2.1:Int) N (fun V0=>
         Jn N a0 (V0.1,(V0.2.1,(([]:(List br)),(([]:(List Int)),(([]:(List QB)),(V0.2.2.2.2.2.1,(IntKind.wrap .i64 (V0.2.2.2.2.2.2+(List.length a0.2.2.1:Int))))))))) (5:Int) (0:Int) kf) kf avI (0:Int)))))
noncomputable def arx (N:Nat) (a0:(List QT)) (a1:Int) (a2:Int) (kf:(List QT)→Option aa):Option aa:=
 bif (decide ((0:Int)≤a1)&&(decide (a1≤a2)&&decide (a2≤(List.length a0:Int)))) then
  kf (List.take (Int.toNat a1) a0++List.drop (Int.toNat a2) a0)
 else none
noncomputable def I38 (N:Nat) (a0:QC) (a1:Int) (kf:QC→Bool→Option aa):Option aa:=
 H4 N a0 (fun iO=>
  NH N a0.1 a1 (fun gp=>
   bif (decide (gp<(0:Int))) then
    kf iO false
   else
    bif (aO gp (List.length a0.1)) then
     bif (decide ((List.length (List.getD a0.1 (Int.toNat gp) ak).2.2.2.2.2:Int)>(0:Int))) then
      kf iO false
     else
      R4 N a0 (fun ado=>
       bif ado then
        kf iO false
       else
        arx N iO.1 gp (IntKind.wrap .i64 (gp+(1:Int))) (fun adp=>
         Jn N a0 (adp,iO.2) (6:Int) a1 kf))
    else none))
noncomputable def I13 (N:Nat) (a0:QC) (a1:QL) (kf:QC→Bool→Option aa):Option aa:=
 bif (a1.1==(1:Int)) then
  I30 N a0 a1.2.1 a1.2.2.1 kf
 else
  bif (a1.1==(2:Int)) then
   I32 N a0 a1.2.1 a1.2.2.1 kf
  else
   bif (a1.1==(3:Int)) then
    I23 N a0 kf
   else
    bif (a1.1==(4:Int)) then
     I35 N a0 a1.2.2.2 a1.2.1 a1.2.2.1 kf
    else
     bif (a1.1==(5:Int)) then
      I28 N a0 kf
     else
      bif (a1.1==(6:Int)) then
       I38 N a0 a1.2.1 kf
      else
       H4 N a0 (fun Sr=>
        kf Sr false)
noncomputable def vF (ae:(List QL)) (aw:(List QL)) (sG:Int):Nat→(Option aa)→(Bool→Option aa)→Int→Option aa
 |0,_,_,_=>none
 |jU+1,dh,dk,cV=>
  bif (decide (cV<sG)) then
   bif (aO cV (List.length ae)) then
    bif (aO cV (List.length aw)) then
     bif (!((decide (((List.getD ae (Int.toNat cV) xD).1:Int)=(List.getD aw (Int.toNat cV) xD).1))&&((decide (((List.getD ae (Int.toNat cV) xD).2.1:Int)=(List.getD aw (Int.toNat cV) xD).2.1))&&((decide (((List.getD ae (Int.toNat cV) xD).2.2.1:Int)=(List.getD aw (Int.toNat cV) xD).2.2.1))&&(decide (((List.getD ae (Int.toNat cV) xD).2.2.2:Int)=(List.getD aw (Int.toNat cV) xD).2.2.2)))))) then
      dk false
     else
      (vF ae aw sG jU dh dk) (IntKind.wrap .i64 (cV+(1:Int)))
    else none
   else none
  else
   dh
noncomputable def S76 (N:Nat) (a0:(List QL)) (a1:(List QL)) (kf:Bool→Option aa):Option aa:=
 bif ((List.length a0:Int) != (List.length a1:Int)) then
  kf false
 else
  vF a0 a1 (List.length a0:Int) N (kf true) kf (0:Int)
noncomputable def qo (ae:(List QT)):Nat→((List QT)→Option aa)→(List QT)→Int→Option aa
 |0,_,_,_=>none
 |Ax+1,gG,aC,b6=>
  bif (decide (b6<(List.length ae:Int))) then
   bif (aO b6 (List.length ae)) then
    bif (decide ((List.length ([]:(List Int))+List.length (List.getD ae (Int.toNat b6) ak).2.2.2.2.2)*1≤4398046511104)) then
     bif (decide ((List.length aC+List.length [((List.getD ae (Int.toNat b6) ak).1,((List.getD ae (Int.toNat b6) ak).2.1,((List.getD ae (Int.toNat b6) ak).2.2.1,((List.getD ae (Int.toNat b6) ak).2.2.2.1,((List.getD ae (Int.toNat b6) ak).2.2.2.2.1,(([]:(List Int))++(List.getD ae (Int.toNat b6) ak).2.2.2.2.2))))))])*6≤4398046511104)) then
      (qo ae Ax gG) (aC++[((List.getD ae (Int.toNat b6) ak).1,((List.getD ae (Int.toNat b6) ak).2.1,((List.getD ae (Int.toNat b6) ak).2.2.1,((List.getD ae (Int.toNat b6) ak).2.2.2.1,((List.getD ae (Int.toNat b6) ak).2.2.2.2.1,(([]:(List Int))++(List.getD ae (Int.toNat b6) ak).2.2.2.2.2))))))]) (IntKind.wrap .i64 (b6+(1:Int)))
     else none
    else none
   else none
  else
   gG aC
noncomputable def Fj (N:Nat) (a0:(List QT)) (kf:(List QT)→Option aa):Option aa:=
 qo a0 N kf ([]:(List QT)) (0:Int)
noncomputable def qp (ae:(List QJ)):Nat→((List QJ)→Option aa)→(List QJ)→Int→Option aa
 |0,_,_,_=>none
 |Ax+1,gG,aC,b6=>
  bif (decide (b6<(List.length ae:Int))) then
   bif (aO b6 (List.length ae)) then
    bif (decide ((List.length ([]:(List Int))+List.length (List.getD ae (Int.toNat b6) ck).2.2)*1≤4398046511104)) then
     bif (decide ((List.length aC+List.length [((List.getD ae (Int.toNat b6) ck).1,((List.getD ae (Int.toNat b6) ck).2.1,(([]:(List Int))++(List.getD ae (Int.toNat b6) ck).2.2)))])*3≤4398046511104)) then
      (qp ae Ax gG) (aC++[((List.getD ae (Int.toNat b6) ck).1,((List.getD ae (Int.toNat b6) ck).2.1,(([]:(List Int))++(List.getD ae (Int.toNat b6) ck).2.2)))]) (IntKind.wrap .i64 (b6+(1:Int)))
     else none
    else none
   else none
  else
   gG aC
noncomputable def Ss (N:Nat) (a0:(List QJ)) (kf:(List QJ)→Option aa):Option aa:=
 qp a0 N kf ([]:(List QJ)) (0:Int)
noncomputable def V1 (N:Nat) (a0:QC) (kf:QC→Option aa):Option aa:=
 Fj N a0.1 (fun EY=>
  Ss N a0.2.1 (fun ara=>
   bif (decide ((List.length ([]:(List br))+List.length a0.2.2.1)*2≤4398046511104)) then
    bif (decide ((List.length ([]:(List Int))+List.length a0.2.2.2.1)*1≤4398046511104)) then
     bif (decide ((List.length ([]:(List QB))+List.length a0.2.2.2.2.1)*3≤4398046511104)) then
      bif (decide ((List.length ([]:(List QL))+List.length a0.2.2.2.2.2.1)*4≤4398046511104)) then
       kf (EY,(ara,((([]:(List br))++a0.2.2.1),((([]:(List Int))++a0.2.2.2.1),((([]:(List QB))++a0.2.2.2.2.1),((([]:(List QL))++a0.2.2.2.2.2.1),a0.2.2.2.2.2.2))))))
      else none
     else none
    else none
   else none))
noncomputable def gT (N:Nat) (a0:Int) (a1:Int) (a2:Int) (kf:Bool→Option aa):Option aa:=
 bif (decide (a0≥a1)) then
  kf (decide (a0≤a2))
 else
  kf false
noncomputable def qq (ae:(List QT)) (aw:Int):Nat→(Option aa)→(Int→Option aa)→Int→Option aa
 |0,_,_,_=>none
 |Ax+1,bV,cM,aK=>
  bif (decide (aK<(List.length ae:Int))) then
   bif (aO aK (List.length ae)) then
    bif ((List.getD ae (Int.toNat aK) ak).1==aw) then
     cM aK
    else
     (qq ae aw Ax bV cM) (IntKind.wrap .i64 (aK+(1:Int)))
   else none
  else
   bV
noncomputable def vG (N:Nat) (a0:(List QT)) (a1:Int) (kf:Int→Option aa):Option aa:=
 qq a0 a1 N (kf (-1:Int)) kf (0:Int)
noncomputable def nI (ae:(List Int)) (aw:Int):Nat→(Int→Option aa)→Int→Int→Option aa
 |0,_,_,_=>none
 |jU+1,bB,aK,gf=>
  bif (decide (gf<(List.length ae:Int))) then
   bif (aO gf (List.length ae)) then
    bif ((List.getD ae (Int.toNat gf) (0:Int))==aw) then
     (nI ae aw jU bB) (IntKind.wrap .i64 (aK+(1:Int))) (IntKind.wrap .i64 (gf+(1:Int)))
    else
     (nI ae aw jU bB) aK (IntKind.wrap .i64 (gf+(1:Int)))
   else none
  else
   bB aK
noncomputable def Su (N:Nat) (a0:(List Int)) (a1:Int) (kf:Int→Option aa):Option aa:=
 nI a0 a1 N kf (0:Int) (0:Int)
noncomputable def jK (N:Nat) (xI:(List QT)) (H6:Int) (fj:QT):Nat→(Option aa)→(Bool→Option aa)→Int→Option aa
 |0,_,_,_=>none
 |arw+1,tJ,kO,V2=>
  bif (decide (V2<(List.length fj.2.2.2.2.2:Int))) then
   bif (aO V2 (List.length fj.2.2.2.2.2)) then
    vG N xI (List.getD fj.2.2.2.2.2 (Int.toNat V2) (0:Int)) (fun kC=>
     bif (decide (kC<(0:Int))) then
      kO false
     else
      bif (kC==H6) then
       kO false
      else
       bif (aO kC (List.length xI)) then
        bif (aO kC (List.length xI)) then
         Su N (List.getD xI (Int.toNat kC) ak).2.2.2.2.2 fj.1 (fun Jy=>
          Su N fj.2.2.2.2.2 (List.getD xI (Int.toNat kC) ak).1 (fun Jz=>
           bif (Jy != Jz) then
            kO false
           else
            (jK N xI H6 fj arw tJ kO) (IntKind.wrap .i64 (V2+(1:Int)))))
        else none
       else none)
   else none
  else
   tJ
noncomputable def nJ (N:Nat) (ae:(List QT)):Nat→(Option aa)→(Bool→Option aa)→Int→Option aa
 |0,_,_,_=>none
 |n_3+1,qs,cW,aC=>
  bif (decide (aC<(List.length ae:Int))) then
   bif (aO aC (List.length ae)) then
    gT N (List.getD ae (Int.toNat aC) ak).1 (1:Int) (99:Int) (fun E9=>
     bif (!E9) then
      cW false
     else
      gT N (List.getD ae (Int.toNat aC) ak).2.1 (1:Int) (99:Int) (fun Fl=>
       bif (!Fl) then
        cW false
       else
        gT N (List.getD ae (Int.toNat aC) ak).2.2.1 (0:Int) (List.length (List.getD ae (Int.toNat aC) ak).2.2.2.2.2:Int) (fun NQ=>
         bif (!NQ) then
          cW false
         else
          gT N (List.getD ae (Int.toNat aC) ak).2.2.2.2.1 (0:Int) (List.length (List.getD ae (Int.toNat aC) ak).2.2.2.2.2:Int) (fun adq=>
           bif (!adq) then
            cW false
           else
            gT N (List.getD ae (Int.toNat aC) ak).2.2.2.1 (0:Int) (100000:Int) (fun adr=>
             bif (!adr) then
              cW false
             else
              bif (decide ((List.length (List.getD ae (Int.toNat aC) ak).2.2.2.2.2:Int)>(20:Int))) then
               cW false
              else
               bif (decide (aC>(0:Int))) then
                bif (aO (IntKind.wrap .i64 (aC - (1:Int))) (List.length ae)) then
                 bif (decide ((List.getD ae (Int.toNat (IntKind.wrap .i64 (aC - (1:Int)))) ak).1≥(List.getD ae (Int.toNat aC) ak).1)) then
                  cW false
                 else
                  jK N ae aC (List.getD ae (Int.toNat aC) ak) N ((nJ N ae n_3 qs cW) (IntKind.wrap .i64 (aC+(1:Int)))) cW (0:Int)
                else none
               else
                jK N ae aC (List.getD ae (Int.toNat aC) ak) N ((nJ N ae n_3 qs cW) (IntKind.wrap .i64 (aC+(1:Int)))) cW (0:Int))))))
   else none
  else
   qs
noncomputable def uj (N:Nat) (a0:(List QT)) (kf:Bool→Option aa):Option aa:=
 nJ N a0 N (kf (decide ((List.length a0:Int)≤(10:Int)))) kf (0:Int)
noncomputable def ads (N:Nat) (a0:QT) (a1:QT) (kf:Bool→Option aa):Option aa:=
 bif (a0.2.2.1 != a1.2.2.1) then
  kf (decide (a0.2.2.1>a1.2.2.1))
 else
  bif (decide (a0.2.2.2.1>a1.2.2.2.1)) then
   kf true
  else
   bif (a0.2.2.2.1==a1.2.2.2.1) then
    kf (decide (a0.1<a1.1))
   else
    kf false
noncomputable def lh (nK:(List QT)):Nat→((List Int)→Option aa)→(List Int)→Int→Option aa
 |0,_,_,_=>none
 |axj+1,oY,lP,NY=>
  bif (decide (NY<(List.length nK:Int))) then
   bif (aO NY (List.length nK)) then
    bif (decide ((List.length lP+List.length [(List.getD nK (Int.toNat NY) ak).1])*1≤4398046511104)) then
     (lh nK axj oY) (lP++[(List.getD nK (Int.toNat NY) ak).1]) (IntKind.wrap .i64 (NY+(1:Int)))
    else none
   else none
  else
   oY lP
noncomputable def qt (N:Nat) (er:(List QT)) (ia:(List QT)) (su:Int):Nat→(Int→Option aa)→Int→Option aa
 |0,_,_=>none
 |Zj+1,JA,Zt=>
  bif (decide (Zt>(0:Int))) then
   bif (aO su (List.length er)) then
    bif (aO (IntKind.wrap .i64 (Zt - (1:Int))) (List.length ia)) then
     ads N (List.getD er (Int.toNat su) ak) (List.getD ia (Int.toNat (IntKind.wrap .i64 (Zt - (1:Int)))) ak) (fun R1=>
      bif R1 then
       (qt N er ia su Zj JA) (IntKind.wrap .i64 (Zt - (1:Int)))
      else
       JA Zt)
    else none
   else none
  else
   JA Zt
noncomputable def qu (N:Nat) (ae:(List QT)):Nat→((List QT)→Option aa)→(List QT)→Int→Option aa
 |0,_,_,_=>none
 |Ax+1,nL,aC,b6=>
  bif (decide (b6<(List.length ae:Int))) then
   uj N ae (fun adt=>
    bif adt then
     qt N ae aC b6 N (fun iu=>
      bif (decide ((0:Int)≤(0:Int))&&decide ((0:Int)≤iu)&&decide (iu≤(List.length aC:Int))) then
       bif (aO b6 (List.length ae)) then
        bif (decide ((0:Int)≤iu)&&decide (iu≤(List.length aC:Int))&&decide ((List.length aC:Int)≤(List.length aC:Int))) then
         bif (decide ((List.length ([]:(List QT))+List.length (List.drop 0 (List.take (Int.toNat iu) aC)))*6≤4398046511104)) then
          bif (decide ((List.length (([]:(List QT))++(List.drop 0 (List.take (Int.toNat iu) aC)))+List.length [(List.getD ae (Int.toNat b6) ak)])*6≤4398046511104)) then
           bif (decide ((List.length ((([]:(List QT))++(List.drop 0 (List.take (Int.toNat iu) aC)))++[(List.getD ae (Int.toNat b6) ak)])+List.length (List.drop (Int.toNat iu) (List.take (Int.toNat (List.length aC:Int)) aC)))*6≤4398046511104)) then
            (qu N ae Ax nL) (((([]:(List QT))++(List.drop 0 (List.take (Int.toNat iu) aC)))++[(List.getD ae (Int.toNat b6) ak)])++(List.drop (Int.toNat iu) (List.take (Int.toNat (List.length aC:Int)) aC))) (IntKind.wrap .i64 (b6+(1:Int)))
           else none
          else none
         else none
        else none
       else none
      else none) (List.length aC:Int)
    else
     nL aC)
  else
   nL aC
noncomputable def aiX (N:Nat) (a0:(List QT)) (kf:(List Int)→Option aa):Option aa:=
 qu N a0 N (fun avJ=>
  lh avJ N kf ([]:(List Int)) (0:Int)) ([]:(List QT)) (0:Int)
noncomputable def qv (ae:(List Int)) (aw:Int):Nat→(Option aa)→(Bool→Option aa)→Int→Option aa
 |0,_,_,_=>none
 |Ax+1,bV,cM,aK=>
  bif (decide (aK<(List.length ae:Int))) then
   bif (aO aK (List.length ae)) then
    bif ((List.getD ae (Int.toNat aK) (0:Int))==aw) then
     cM true
    else
     (qv ae aw Ax bV cM) (IntKind.wrap .i64 (aK+(1:Int)))
   else none
  else
   bV
noncomputable def vH (N:Nat) (a0:(List Int)) (a1:Int) (kf:Bool→Option aa):Option aa:=
 qv a0 a1 N (kf false) kf (0:Int)
noncomputable def aiY (N:Nat) (a0:(List QT)) (a1:Int) (a2:Int) (kf:Bool→Option aa):Option aa:=
 vG N a0 a1 (fun dy=>
  bif (decide (dy≥(0:Int))) then
   bif (aO dy (List.length a0)) then
    vH N (List.getD a0 (Int.toNat dy) ak).2.2.2.2.2 a2 kf
   else none
  else
   kf false)
noncomputable def Sv (N:Nat) (a0:(List QT)) (a1:Int) (a2:Int) (kf:Bool→Option aa):Option aa:=
 vG N a0 a1 (fun cw=>
  vG N a0 a2 (fun cI=>
   uj N a0 (fun rn=>
    bif rn then
     bif (decide (cw≥(0:Int))) then
      bif (decide (cI≥(0:Int))) then
       bif (cw != cI) then
        bif (aO cw (List.length a0)) then
         bif (aO cI (List.length a0)) then
          bif ((List.getD a0 (Int.toNat cw) ak).2.1 != (List.getD a0 (Int.toNat cI) ak).2.1) then
           aiY N a0 a1 a2 (fun ac7=>
            kf (!ac7))
          else
           kf false
         else none
        else none
       else
        kf false
      else
       kf false
     else
      kf false
    else
     kf false)))
noncomputable def aiZ (N:Nat) (a0:(List QT)) (a1:Int) (a2:Int) (kf:br→Option aa):Option aa:=
 vG N a0 a1 (fun cw=>
  vG N a0 a2 (fun cI=>
   uj N a0 (fun rn=>
    bif (!rn) then
     kf ((0:Int),(0:Int))
    else
     bif (decide (cw<(0:Int))) then
      kf ((0:Int),(0:Int))
     else
      bif (decide (cI<(0:Int))) then
       kf ((0:Int),(0:Int))
      else
       bif (cw==cI) then
        kf ((0:Int),(0:Int))
       else
        bif (aO cI (List.length a0)) then
         bif (aO cw (List.length a0)) then
          bif (decide ((List.getD a0 (Int.toNat cI) ak).2.2.2.2.1<(List.getD a0 (Int.toNat cw) ak).2.2.2.2.1)) then
           kf (a2,a1)
          else
           bif (aO cI (List.length a0)) then
            bif (aO cw (List.length a0)) then
             bif ((List.getD a0 (Int.toNat cI) ak).2.2.2.2.1==(List.getD a0 (Int.toNat cw) ak).2.2.2.2.1) then
              bif (aO cI (List.length a0)) then
               bif (aO cw (List.length a0)) then
                ads N (List.getD a0 (Int.toNat cI) ak) (List.getD a0 (Int.toNat cw) ak) (fun avK=>
                 bif avK then
                  kf (a2,a1)
                 else
                  kf (a1,a2))
               else none
              else none
             else
              kf (a1,a2)
            else none
           else none
         else none
        else none)))
noncomputable def qw (N:Nat) (self:(List QT)→(List Int)→((List br)→Bool→Option aa)→Option aa) (ae:(List QT)) (aw:(List Int)):Nat→(Option aa)→((List br)→Bool→Option aa)→Int→Option aa
 |0,_,_,_=>none
 |Ax+1,Sw,JB,jn=>
  bif (decide (jn<(List.length aw:Int))) then
   bif (aO (0:Int) (List.length aw)) then
    bif (aO jn (List.length aw)) then
     Sv N ae (List.getD aw (Int.toNat (0:Int)) (0:Int)) (List.getD aw (Int.toNat jn) (0:Int)) (fun adg=>
      bif (!adg) then
       (qw N self ae aw Ax Sw JB) (IntKind.wrap .i64 (jn+(1:Int)))
      else
       bif (decide ((0:Int)≤(1:Int))&&decide ((1:Int)≤jn)&&decide (jn≤(List.length aw:Int))) then
        bif (decide ((0:Int)≤(IntKind.wrap .i64 (jn+(1:Int))))&&decide ((IntKind.wrap .i64 (jn+(1:Int)))≤(List.length aw:Int))&&decide ((List.length aw:Int)≤(List.length aw:Int))) then
         bif (decide ((List.length ([]:(List Int))+List.length (List.drop (Int.toNat (1:Int)) (List.take (Int.toNat jn) aw)))*1≤4398046511104)) then
          bif (decide ((List.length (([]:(List Int))++(List.drop (Int.toNat (1:Int)) (List.take (Int.toNat jn) aw)))+List.length (List.drop (Int.toNat (IntKind.wrap .i64 (jn+(1:Int)))) (List.take (Int.toNat (List.length aw:Int)) aw)))*1≤4398046511104)) then
           self ae ((([]:(List Int))++(List.drop (Int.toNat (1:Int)) (List.take (Int.toNat jn) aw)))++(List.drop (Int.toNat (IntKind.wrap .i64 (jn+(1:Int)))) (List.take (Int.toNat (List.length aw:Int)) aw))) (fun aps avL=>
            bif avL then
             bif (aO (0:Int) (List.length aw)) then
              bif (aO jn (List.length aw)) then
               aiZ N ae (List.getD aw (Int.toNat (0:Int)) (0:Int)) (List.getD aw (Int.toNat jn) (0:Int)) (fun H5=>
                bif (decide ((List.length [H5]+List.length aps)*2≤4398046511104)) then
                 JB ([H5]++aps) true
                else none)
              else none
             else none
            else
             (qw N self ae aw Ax Sw JB) (IntKind.wrap .i64 (jn+(1:Int))))
          else none
         else none
        else none
       else none)
    else none
   else none
  else
   Sw
noncomputable def Sx (self:(List QT)→(List Int)→((List br)→Bool→Option aa)→Option aa) (N:Nat) (a0:(List QT)) (a1:(List Int)) (kf:(List br)→Bool→Option aa):Option aa:=
 bif ((List.length a1:Int)==(0:Int)) then
  kf ([]:(List br)) true
 else
  qw N self a0 a1 N (kf ([]:(List br)) false) kf (1:Int)
noncomputable def Sy:Nat→(List QT)→(List Int)→((List br)→Bool→Option aa)→Option aa
 |0,_,_,_=>none
 |N+1,a0,a1,kf=>Sx (Sy N) N a0 a1 kf
noncomputable def S91 (N:Nat) (a0:(List QT)) (kf:(List br)→Bool→Option aa):Option aa:=
 uj N a0 (fun EY=>
  bif (!EY) then
   kf ([]:(List br)) false
  else
   bif ((Int.tmod (List.length a0:Int) (2:Int))==(1:Int)) then
    kf ([]:(List br)) false
   else
    aiX N a0 (fun oV=>
     Sy N a0 oV kf))
noncomputable def iE (N:Nat) (er:(List QJ)) (ia:Int):Nat→(Option aa)→(Bool→Option aa)→Int→Option aa
 |0,_,_,_=>none
 |n_9+1,qx,lX,su=>
  bif (aO ia (List.length er)) then
   bif (decide (su<(List.length (List.getD er (Int.toNat ia) ck).2.2:Int))) then
    bif (aO ia (List.length er)) then
     bif (aO su (List.length (List.getD er (Int.toNat ia) ck).2.2)) then
      gT N (List.getD (List.getD er (Int.toNat ia) ck).2.2 (Int.toNat su) (0:Int)) (1:Int) (99:Int) (fun Sz=>
       bif (!Sz) then
        lX false
       else
        bif (decide (su>(0:Int))) then
         bif (aO ia (List.length er)) then
          bif (aO (IntKind.wrap .i64 (su - (1:Int))) (List.length (List.getD er (Int.toNat ia) ck).2.2)) then
           bif (aO ia (List.length er)) then
            bif (aO su (List.length (List.getD er (Int.toNat ia) ck).2.2)) then
             bif (decide ((List.getD (List.getD er (Int.toNat ia) ck).2.2 (Int.toNat (IntKind.wrap .i64 (su - (1:Int)))) (0:Int))≥(List.getD (List.getD er (Int.toNat ia) ck).2.2 (Int.toNat su) (0:Int)))) then
              lX false
             else
              (iE N er ia n_9 qx lX) (IntKind.wrap .i64 (su+(1:Int)))
            else none
           else none
          else none
         else none
        else
         (iE N er ia n_9 qx lX) (IntKind.wrap .i64 (su+(1:Int))))
     else none
    else none
   else
    qx
  else none
noncomputable def nM (N:Nat) (ae:(List QJ)):Nat→(Option aa)→(Bool→Option aa)→Int→Option aa
 |0,_,_,_=>none
 |n_3+1,qy,fN,aC=>
  bif (decide (aC<(List.length ae:Int))) then
   bif (aO aC (List.length ae)) then
    gT N (List.getD ae (Int.toNat aC) ck).1 (1:Int) (99:Int) (fun NG=>
     bif (!NG) then
      fN false
     else
      bif (aO aC (List.length ae)) then
       gT N (List.getD ae (Int.toNat aC) ck).2.1 (1:Int) (99:Int) (fun Fl=>
        bif (!Fl) then
         fN false
        else
         bif (decide (aC>(0:Int))) then
          bif (aO (IntKind.wrap .i64 (aC - (1:Int))) (List.length ae)) then
           bif (aO aC (List.length ae)) then
            bif (decide ((List.getD ae (Int.toNat (IntKind.wrap .i64 (aC - (1:Int)))) ck).1≥(List.getD ae (Int.toNat aC) ck).1)) then
             fN false
            else
             iE N ae aC N ((nM N ae n_3 qy fN) (IntKind.wrap .i64 (aC+(1:Int)))) fN (0:Int)
           else none
          else none
         else
          iE N ae aC N ((nM N ae n_3 qy fN) (IntKind.wrap .i64 (aC+(1:Int)))) fN (0:Int))
      else none)
   else none
  else
   qy
noncomputable def Zu (N:Nat) (a0:(List QJ)) (kf:Bool→Option aa):Option aa:=
 nM N a0 N (kf (decide ((List.length a0:Int)≤(10:Int)))) kf (0:Int)
noncomputable def Zv (N:Nat) (a0:(List QT)) (a1:QJ) (a2:br) (kf:Bool→Option aa):Option aa:=
 vG N a0 a2.1 (fun uE=>
  vG N a0 a2.2 (fun oV=>
   bif (decide (uE≥(0:Int))) then
    bif (decide (oV≥(0:Int))) then
     bif (aO uE (List.length a0)) then
      bif ((List.getD a0 (Int.toNat uE) ak).2.1 != a1.2.1) then
       bif (aO oV (List.length a0)) then
        bif ((List.getD a0 (Int.toNat oV) ak).2.1 != a1.2.1) then
         vH N a1.2.2 a2.1 (fun avM=>
          bif (!avM) then
           vH N a1.2.2 a2.2 (fun adu=>
            kf (!adu))
          else
           kf false)
        else
         kf false
       else none
      else
       kf false
     else none
    else
     kf false
   else
    kf false))
noncomputable def nN (N:Nat) (self:(List QT)→(List QJ)→(List br)→(List Int)→((List Int)→Bool→Option aa)→Option aa) (ae:(List QT)) (aw:(List QJ)) (fu:(List br)) (cy:(List Int)):Nat→(Option aa)→((List Int)→Bool→Option aa)→Int→Option aa
 |0,_,_,_=>none
 |Jf+1,jL,fO,eZ=>
  bif (decide (eZ<(List.length aw:Int))) then
   bif (aO eZ (List.length aw)) then
    vH N cy (List.getD aw (Int.toNat eZ) ck).1 (fun avN=>
     bif avN then
      (nN N self ae aw fu cy Jf jL fO) (IntKind.wrap .i64 (eZ+(1:Int)))
     else
      bif (aO eZ (List.length aw)) then
       bif (aO (0:Int) (List.length fu)) then
        Zv N ae (List.getD aw (Int.toNat eZ) ck) (List.getD fu (Int.toNat (0:Int)) cO) (fun sz=>
         bif (!sz) then
          (nN N self ae aw fu cy Jf jL fO) (IntKind.wrap .i64 (eZ+(1:Int)))
         else
          bif (decide ((0:Int)≤(1:Int))&&decide ((1:Int)≤(List.length fu:Int))&&decide ((List.length fu:Int)≤(List.length fu:Int))) then
           bif (aO eZ (List.length aw)) then
            bif (decide ((List.length ([]:(List Int))+List.length cy)*1≤4398046511104)) then
             bif (decide ((List.length (([]:(List Int))++cy)+List.length [(List.getD aw (Int.toNat eZ) ck).1])*1≤4398046511104)) then
              self ae aw (List.drop (Int.toNat (1:Int)) (List.take (Int.toNat (List.length fu:Int)) fu)) ((([]:(List Int))++cy)++[(List.getD aw (Int.toNat eZ) ck).1]) (fun apt ary=>
               bif ary then
                bif (aO eZ (List.length aw)) then
                 bif (decide ((List.length [(List.getD aw (Int.toNat eZ) ck).1]+List.length apt)*1≤4398046511104)) then
                  fO ([(List.getD aw (Int.toNat eZ) ck).1]++apt) true
                 else none
                else none
               else
                (nN N self ae aw fu cy Jf jL fO) (IntKind.wrap .i64 (eZ+(1:Int))))
             else none
            else none
           else none
          else none)
       else none
      else none)
   else none
  else
   jL
noncomputable def SA (self:(List QT)→(List QJ)→(List br)→(List Int)→((List Int)→Bool→Option aa)→Option aa) (N:Nat) (a0:(List QT)) (a1:(List QJ)) (a2:(List br)) (a3:(List Int)) (kf:(List Int)→Bool→Option aa):Option aa:=
 bif ((List.length a2:Int)==(0:Int)) then
  kf ([]:(List Int)) true
 else
  nN N self a0 a1 a2 a3 N (kf ([]:(List Int)) false) kf (0:Int)
noncomputable def SB:Nat→(List QT)→(List QJ)→(List br)→(List Int)→((List Int)→Bool→Option aa)→Option aa
 |0,_,_,_,_,_=>none
 |N+1,a0,a1,a2,a3,kf=>SA (SB N) N a0 a1 a2 a3 kf
noncomputable def S92 (N:Nat) (a0:(List QT)) (a1:(List QJ)) (a2:(List br)) (kf:(List Int)→Bool→Option aa):Option aa:=
 Zu N a1 (fun iO=>
  bif (!iO) then
   kf ([]:(List Int)) false
  else
   uj N a0 (fun gp=>
    bif (!gp) then
     kf ([]:(List Int)) false
    else
     SB N a0 a1 a2 ([]:(List Int)) kf))
noncomputable def S94 (N:Nat) (a0:QC) (kf:Bool→Option aa):Option aa:=
 kf (decide ((List.length a0.2.2.1:Int)>(0:Int)))
noncomputable def arz (N:Nat) (a0:(List QL)) (kf:Int→Option aa):Option aa:=
 bif ((List.length a0:Int)==(0:Int)) then
  kf (0:Int)
 else
  bif (aO (IntKind.wrap .i64 ((List.length a0:Int) - (1:Int))) (List.length a0)) then
   kf (List.getD a0 (Int.toNat (IntKind.wrap .i64 ((List.length a0:Int) - (1:Int)))) xD).2.2.2
  else none
noncomputable def adv (N:Nat) (a0:Int) (a1:Int) (kf:Int→Option aa):Option aa:=
 gT N a1 (1:Int) (1000000000000:Int) (fun Ay=>
  bif (!Ay) then
   kf (0:Int)
  else
   bif (!decide (a1=0)) then
    bif (!decide (a1=0)) then
     kf (Int.tmod (IntKind.wrap .i64 ((Int.tmod a0 a1)+a1)) a1)
    else none
   else none)
noncomputable def qz (N:Nat) (ae:(List Int)):Nat→(Int→Option aa)→Int→Int→Option aa
 |0,_,_,_=>none
 |Ax+1,eA,aC,b6=>
  bif (decide (b6<(List.length ae:Int))) then
   bif (aO b6 (List.length ae)) then
    adv N (List.getD ae (Int.toNat b6) (0:Int)) (2147483647:Int) (fun NF=>
     (qz N ae Ax eA) (Int.tmod (IntKind.wrap .i64 ((IntKind.wrap .i64 ((IntKind.wrap .i64 (aC*(1000003:Int)))+NF))+(13:Int))) (2147483647:Int)) (IntKind.wrap .i64 (b6+(1:Int))))
   else none
  else
   eA aC
noncomputable def ai0 (N:Nat) (a0:(List Int)) (kf:Int→Option aa):Option aa:=
 qz N a0 N kf (11:Int) (0:Int)
noncomputable def SC (N:Nat) (a0:Int) (a1:QL) (kf:Int→Option aa):Option aa:=
 ai0 N [a0,a1.1,a1.2.1,a1.2.2.1] kf
noncomputable def qA (N:Nat) (ae:(List QL)):Nat→(Option aa)→(Bool→Option aa)→Int→Int→Option aa
 |0,_,_,_,_=>none
 |Ax+1,cq,fL,aC,b6=>
  bif (decide (b6<(List.length ae:Int))) then
   bif (decide ((List.length ae:Int)≤(200:Int))) then
    bif (aO b6 (List.length ae)) then
     SC N aC (List.getD ae (Int.toNat b6) xD) (fun uF=>
      bif ((List.getD ae (Int.toNat b6) xD).1 != (IntKind.wrap .i64 (b6+(1:Int)))) then
       fL false
      else
       gT N (List.getD ae (Int.toNat b6) xD).2.1 (1:Int) (9:Int) (fun Fm=>
        bif (!Fm) then
         fL false
        else
         gT N (List.getD ae (Int.toNat b6) xD).2.2.1 (0:Int) (99:Int) (fun NZ=>
          bif (!NZ) then
           fL false
          else
           bif ((List.getD ae (Int.toNat b6) xD).2.2.2 != uF) then
            fL false
           else
            (qA N ae Ax cq fL) uF (IntKind.wrap .i64 (b6+(1:Int))))))
    else none
   else
    cq
  else
   cq
noncomputable def adw (N:Nat) (a0:(List QL)) (kf:Bool→Option aa):Option aa:=
 qA N a0 N (kf (decide ((List.length a0:Int)≤(200:Int)))) kf (0:Int) (0:Int)
noncomputable def ai1 (N:Nat) (a0:(List QL)) (a1:Int) (a2:Int) (kf:(List QL)→Bool→Option aa):Option aa:=
 arz N a0 (fun NL=>
  SC N NL ((IntKind.wrap .i64 ((List.length a0:Int)+(1:Int))),(a1,(a2,(0:Int)))) (fun xF=>
   bif (decide ((List.length ([]:(List QL))+List.length a0)*4≤4398046511104)) then
    bif (decide ((List.length (([]:(List QL))++a0)+List.length [((IntKind.wrap .i64 ((List.length a0:Int)+(1:Int))),(a1,(a2,xF)))])*4≤4398046511104)) then
     adw N ((([]:(List QL))++a0)++[((IntKind.wrap .i64 ((List.length a0:Int)+(1:Int))),(a1,(a2,xF)))]) (fun ado=>
      bif (!ado) then
       bif (decide ((List.length ([]:(List QL))+List.length a0)*4≤4398046511104)) then
        kf (([]:(List QL))++a0) false
       else none
      else
       kf ((([]:(List QL))++a0)++[((IntKind.wrap .i64 ((List.length a0:Int)+(1:Int))),(a1,(a2,xF)))]) true)
    else none
   else none))
noncomputable def qB (N:Nat) (ae:(List QT)):Nat→(Int→Option aa)→Int→Int→Option aa
 |0,_,_,_=>none
 |Ax+1,eA,aC,b6=>
  bif (decide (b6<(List.length ae:Int))) then
   uj N ae (fun adx=>
    bif adx then
     bif (aO b6 (List.length ae)) then
      (qB N ae Ax eA) (IntKind.wrap .i64 (aC+(List.getD ae (Int.toNat b6) ak).2.2.1)) (IntKind.wrap .i64 (b6+(1:Int)))
     else none
    else
     eA aC)
  else
   eA aC
noncomputable def ai2 (N:Nat) (a0:(List QT)) (kf:Int→Option aa):Option aa:=
 qB N a0 N kf (0:Int) (0:Int)
noncomputable def qC (N:Nat) (ae:(List QT)) (aw:(List br)):Nat→((List Int)→Option aa)→(Bool→Option aa)→(List Int)→Int→Option aa
 |0,_,_,_,_=>none
 |jU+1,bE,kP,aK,gf=>
  bif (decide (gf<(List.length aw:Int))) then
   bif (aO gf (List.length aw)) then
    bif (aO gf (List.length aw)) then
     Sv N ae (List.getD aw (Int.toNat gf) cO).1 (List.getD aw (Int.toNat gf) cO).2 (fun N0=>
      bif (!N0) then
       kP false
      else
       bif (aO gf (List.length aw)) then
        vH N aK (List.getD aw (Int.toNat gf) cO).1 (fun N1=>
         bif N1 then
          kP false
         else
          bif (aO gf (List.length aw)) then
           vH N aK (List.getD aw (Int.toNat gf) cO).2 (fun N3=>
            bif N3 then
             kP false
            else
             bif (aO gf (List.length aw)) then
              bif (aO gf (List.length aw)) then
               bif (decide ((List.length aK+List.length [(List.getD aw (Int.toNat gf) cO).1,(List.getD aw (Int.toNat gf) cO).2])*1≤4398046511104)) then
                (qC N ae aw jU bE kP) (aK++[(List.getD aw (Int.toNat gf) cO).1,(List.getD aw (Int.toNat gf) cO).2]) (IntKind.wrap .i64 (gf+(1:Int)))
               else none
              else none
             else none)
          else none)
       else none)
    else none
   else none
  else
   bE aK
noncomputable def ai3 (N:Nat) (a0:(List QT)) (a1:(List br)) (kf:Bool→Option aa):Option aa:=
 qC N a0 a1 N (fun avO=>
  uj N a0 (fun arA=>
   bif arA then
    kf ((List.length avO:Int)==(List.length a0:Int))
   else
    kf false)) kf ([]:(List Int)) (0:Int)
noncomputable def qD (ae:(List QJ)) (aw:Int):Nat→(Option aa)→(Int→Option aa)→Int→Option aa
 |0,_,_,_=>none
 |Ax+1,bV,cM,aK=>
  bif (decide (aK<(List.length ae:Int))) then
   bif (aO aK (List.length ae)) then
    bif ((List.getD ae (Int.toNat aK) ck).1==aw) then
     cM aK
    else
     (qD ae aw Ax bV cM) (IntKind.wrap .i64 (aK+(1:Int)))
   else none
  else
   bV
noncomputable def Fo (N:Nat) (a0:(List QJ)) (a1:Int) (kf:Int→Option aa):Option aa:=
 qD a0 a1 N (kf (-1:Int)) kf (0:Int)
noncomputable def qE (N:Nat) (vB:(List QT)) (jW:(List QJ)) (ky:(List br)) (jk:(List Int)):Nat→(Option aa)→(Bool→Option aa)→Int→Option aa
 |0,_,_,_=>none
 |VW+1,jL,fO,Fp=>
  bif (decide (Fp<(List.length ky:Int))) then
   bif (aO Fp (List.length jk)) then
    Fo N jW (List.getD jk (Int.toNat Fp) (0:Int)) (fun Fq=>
     bif (decide (Fq<(0:Int))) then
      fO false
     else
      bif (decide ((0:Int)≤(0:Int))&&decide ((0:Int)≤Fp)&&decide (Fp≤(List.length jk:Int))) then
       bif (aO Fp (List.length jk)) then
        vH N (List.drop (Int.toNat (0:Int)) (List.take (Int.toNat Fp) jk)) (List.getD jk (Int.toNat Fp) (0:Int)) (fun ady=>
         bif ady then
          fO false
         else
          bif (aO Fq (List.length jW)) then
           bif (aO Fp (List.length ky)) then
            Zv N vB (List.getD jW (Int.toNat Fq) ck) (List.getD ky (Int.toNat Fp) cO) (fun SD=>
             bif (!SD) then
              fO false
             else
              (qE N vB jW ky jk VW jL fO) (IntKind.wrap .i64 (Fp+(1:Int))))
           else none
          else none)
       else none
      else none)
   else none
  else
   jL
noncomputable def ai4 (N:Nat) (a0:(List QT)) (a1:(List QJ)) (a2:(List br)) (a3:(List Int)) (kf:Bool→Option aa):Option aa:=
 bif ((List.length a3:Int) != (List.length a2:Int)) then
  kf false
 else
  Zu N a1 (fun aF=>
   bif (!aF) then
    kf false
   else
    qE N a0 a1 a2 a3 N (kf true) kf (0:Int))
noncomputable def N4 (N:Nat) (a0:QB) (kf:Bool→Option aa):Option aa:=
 gT N a0.1 (1:Int) (99:Int) (fun EY=>
  bif EY then
   gT N a0.2.1 (0:Int) (100:Int) (fun arf=>
    bif arf then
     gT N a0.2.2 (0:Int) (100:Int) (fun NO=>
      bif NO then
       kf (a0.2.1 != a0.2.2)
      else
       kf false)
    else
     kf false)
  else
   kf false)
noncomputable def nO (N:Nat) (lY:QC) (Fs:QB):Nat→(Option aa)→(Bool→Option aa)→Int→Option aa
 |0,_,_,_=>none
 |Sh+1,qF,lZ,oZ=>
  bif (decide (oZ<(List.length lY.2.2.2.2.1:Int))) then
   bif (aO oZ (List.length lY.2.2.2.2.1)) then
    bif (!((decide (((List.getD lY.2.2.2.2.1 (Int.toNat oZ) fg).1:Int)=Fs.1))&&((decide (((List.getD lY.2.2.2.2.1 (Int.toNat oZ) fg).2.1:Int)=Fs.2.1))&&(decide (((List.getD lY.2.2.2.2.1 (Int.toNat oZ) fg).2.2:Int)=Fs.2.2))))) then
     bif (aO oZ (List.length lY.2.2.2.2.1)) then
      N4 N (List.getD lY.2.2.2.2.1 (Int.toNat oZ) fg) (fun SE=>
       bif (!SE) then
        lZ false
       else
        bif (aO oZ (List.length lY.2.2.2.2.1)) then
         bif (aO oZ (List.length lY.2.2.2.1)) then
          bif ((List.getD lY.2.2.2.2.1 (Int.toNat oZ) fg).1 != (List.getD lY.2.2.2.1 (Int.toNat oZ) (0:Int))) then
           lZ false
          else
           (nO N lY Fs Sh qF lZ) (IntKind.wrap .i64 (oZ+(1:Int)))
         else none
        else none)
     else none
    else
     (nO N lY Fs Sh qF lZ) (IntKind.wrap .i64 (oZ+(1:Int)))
   else none
  else
   qF
noncomputable def Dq (N:Nat) (a0:QC) (kf:Bool→Option aa):Option aa:=
 nO N a0 ((0:Int),((0:Int),(0:Int))) N (kf true) kf (0:Int)
noncomputable def SF (N:Nat) (a0:QC) (kf:Bool→Option aa):Option aa:=
 uj N a0.1 (fun EX=>
  bif (!EX) then
   kf false
  else
   Zu N a0.2.1 (fun NP=>
    bif (!NP) then
     kf false
    else
     adw N a0.2.2.2.2.2.1 (fun E5=>
      bif (!E5) then
       kf false
      else
       bif ((List.length a0.2.2.2.1:Int) != (List.length a0.2.2.1:Int)) then
        kf false
       else
        bif ((List.length a0.2.2.2.2.1:Int) != (List.length a0.2.2.1:Int)) then
         kf false
        else
         gT N a0.2.2.2.2.2.2 (0:Int) (1000:Int) (fun avP=>
          bif (!avP) then
           kf false
          else
           ai2 N a0.1 (fun avQ=>
            bif (avQ != a0.2.2.2.2.2.2) then
             kf false
            else
             bif (decide ((List.length a0.2.2.1:Int)>(0:Int))) then
              ai3 N a0.1 a0.2.2.1 (fun avR=>
               bif (!avR) then
                kf false
               else
                ai4 N a0.1 a0.2.1 a0.2.2.1 a0.2.2.2.1 (fun avS=>
                 bif (!avS) then
                  kf false
                 else
                  Dq N a0 kf))
             else
              Dq N a0 kf)))))
noncomputable def Zw (N:Nat) (a0:QC) (a1:QC) (a2:Bool) (a3:Int) (a4:Int) (kf:QC→Bool→Option aa):Option aa:=
 ai1 N a0.2.2.2.2.2.1 a3 a4 (fun apu xF=>
  bif (!a2) then
   V1 N a0 (fun Ct=>
    kf Ct false)
  else
   bif (!xF) then
    V1 N a0 (fun Ct=>
     kf Ct false)
   else
    SF N a0 (fun avT=>
     bif (!avT) then
      V1 N a0 (fun Ct=>
       kf Ct false)
     else
      SF N (a1.1,(a1.2.1,(a1.2.2.1,(a1.2.2.2.1,(a1.2.2.2.2.1,(apu,a1.2.2.2.2.2.2)))))) (fun avU=>
       bif (!avU) then
        V1 N a0 (fun avV=>
         kf avV false)
       else
        kf (a1.1,(a1.2.1,(a1.2.2.1,(a1.2.2.2.1,(a1.2.2.2.2.1,(apu,a1.2.2.2.2.2.2)))))) true)))
noncomputable def S21 (N:Nat) (a0:QC) (kf:QC→Bool→Option aa):Option aa:=
 V1 N a0 (fun dy=>
  S91 N a0.1 (fun cI NO=>
   S92 N a0.1 a0.2.1 cI (fun H7 uF=>
    bif (decide ((List.length cI:Int)=(List.length cI:Int))&&decide ((0:Int)≤(List.length cI:Int))&&decide ((List.length cI:Int)≤1099511627776)) then
     bif NO then
      bif uF then
       S94 N a0 (fun avW=>
        bif (!avW) then
         Zw N a0 (dy.1,(dy.2.1,(cI,(H7,((List.replicate (Int.toNat (List.length cI:Int)) ((0:Int),((0:Int),(0:Int)))),dy.2.2.2.2.2))))) (decide ((List.length a0.1:Int)>(0:Int))) (3:Int) (0:Int) kf
        else
         Zw N a0 (dy.1,(dy.2.1,(cI,(H7,((List.replicate (Int.toNat (List.length cI:Int)) ((0:Int),((0:Int),(0:Int)))),dy.2.2.2.2.2))))) false (3:Int) (0:Int) kf)
      else
       Zw N a0 (dy.1,(dy.2.1,(cI,(H7,((List.replicate (Int.toNat (List.length cI:Int)) ((0:Int),((0:Int),(0:Int)))),dy.2.2.2.2.2))))) false (3:Int) (0:Int) kf
     else
      Zw N a0 (dy.1,(dy.2.1,(cI,(H7,((List.replicate (Int.toNat (List.length cI:Int)) ((0:Int),((0:Int),(0:Int)))),dy.2.2.2.2.2))))) false (3:Int) (0:Int) kf
    else none)))
noncomputable def nP (ee:QC) (b6:QB):Nat→((List Int)→Option aa)→(List Int)→Int→Option aa
 |0,_,_,_=>none
 |jU+1,cT,aC,JC=>
  bif (decide (JC<(List.length ee.2.2.2.2.1:Int))) then
   bif (aO JC (List.length ee.2.2.2.2.1)) then
    bif ((decide (((List.getD ee.2.2.2.2.1 (Int.toNat JC) fg).1:Int)=b6.1))&&((decide (((List.getD ee.2.2.2.2.1 (Int.toNat JC) fg).2.1:Int)=b6.2.1))&&(decide (((List.getD ee.2.2.2.2.1 (Int.toNat JC) fg).2.2:Int)=b6.2.2)))) then
     bif (decide ((List.length aC+List.length [JC])*1≤4398046511104)) then
      (nP ee b6 jU cT) (aC++[JC]) (IntKind.wrap .i64 (JC+(1:Int)))
     else none
    else
     (nP ee b6 jU cT) aC (IntKind.wrap .i64 (JC+(1:Int)))
   else none
  else
   cT aC
noncomputable def adz (N:Nat) (a0:QC) (kf:(List Int)→Option aa):Option aa:=
 nP a0 ((0:Int),((0:Int),(0:Int))) N kf ([]:(List Int)) (0:Int)
noncomputable def nQ (N:Nat) (ae:(List QB)):Nat→(Option aa)→(Bool→Option aa)→Int→Option aa
 |0,_,_,_=>none
 |n_3+1,bV,cM,aC=>
  bif (decide (aC<(List.length ae:Int))) then
   bif (aO aC (List.length ae)) then
    N4 N (List.getD ae (Int.toNat aC) fg) (fun adA=>
     bif (!adA) then
      cM false
     else
      bif (decide (aC>(0:Int))) then
       bif (aO (IntKind.wrap .i64 (aC - (1:Int))) (List.length ae)) then
        bif (aO aC (List.length ae)) then
         bif (decide ((List.getD ae (Int.toNat (IntKind.wrap .i64 (aC - (1:Int)))) fg).1≥(List.getD ae (Int.toNat aC) fg).1)) then
          cM false
         else
          (nQ N ae n_3 bV cM) (IntKind.wrap .i64 (aC+(1:Int)))
        else none
       else none
      else
       (nQ N ae n_3 bV cM) (IntKind.wrap .i64 (aC+(1:Int))))
   else none
  else
   bV
noncomputable def SG (N:Nat) (a0:(List QB)) (kf:Bool→Option aa):Option aa:=
 nQ N a0 N (kf (decide ((List.length a0:Int)≤(9:Int)))) kf (0:Int)
noncomputable def Zx (N:Nat) (a0:QB) (kf:Int→Option aa):Option aa:=
 bif (decide (a0.2.1>a0.2.2)) then
  kf (1:Int)
 else
  kf (2:Int)
noncomputable def nR (N:Nat) (ae:(List QB)) (aw:Int):Nat→(Int→Option aa)→Int→Int→Option aa
 |0,_,_,_=>none
 |jU+1,bE,aK,gf=>
  bif (decide (gf<(List.length ae:Int))) then
   SG N ae (fun N5=>
    bif N5 then
     bif (aO gf (List.length ae)) then
      Zx N (List.getD ae (Int.toNat gf) fg) (fun NC=>
       bif (NC==aw) then
        (nR N ae aw jU bE) (IntKind.wrap .i64 (aK+(1:Int))) (IntKind.wrap .i64 (gf+(1:Int)))
       else
        (nR N ae aw jU bE) aK (IntKind.wrap .i64 (gf+(1:Int))))
     else none
    else
     bE aK)
  else
   bE aK
noncomputable def adB (N:Nat) (a0:(List QB)) (a1:Int) (kf:Int→Option aa):Option aa:=
 nR N a0 a1 N kf (0:Int) (0:Int)
noncomputable def xJ (N:Nat) (ae:(List QB)) (aw:Int):Nat→(Int→Option aa)→Int→Int→Option aa
 |0,_,_,_=>none
 |jU+1,cq,aK,gf=>
  bif (decide (gf<(List.length ae:Int))) then
   SG N ae (fun N5=>
    bif N5 then
     bif (aw==(1:Int)) then
      bif (aO gf (List.length ae)) then
       (xJ N ae aw jU cq) (IntKind.wrap .i64 (aK+(List.getD ae (Int.toNat gf) fg).2.1)) (IntKind.wrap .i64 (gf+(1:Int)))
      else none
     else
      bif (aw==(2:Int)) then
       bif (aO gf (List.length ae)) then
        (xJ N ae aw jU cq) (IntKind.wrap .i64 (aK+(List.getD ae (Int.toNat gf) fg).2.2)) (IntKind.wrap .i64 (gf+(1:Int)))
       else none
      else
       (xJ N ae aw jU cq) aK (IntKind.wrap .i64 (gf+(1:Int)))
    else
     cq aK)
  else
   cq aK
noncomputable def arB (N:Nat) (a0:(List QB)) (a1:Int) (kf:Int→Option aa):Option aa:=
 xJ N a0 a1 N kf (0:Int) (0:Int)
noncomputable def V3 (N:Nat) (a0:(List QB)) (kf:Int→Option aa) (avX:Int):Option aa:=
 bif (decide (avX>(0:Int))) then
  kf (1:Int)
 else
  bif (decide (avX<(0:Int))) then
   kf (2:Int)
  else
   bif (aO (0:Int) (List.length a0)) then
    Zx N (List.getD a0 (Int.toNat (0:Int)) fg) kf
   else none
noncomputable def Zy (N:Nat) (a0:(List QB)) (kf:Int→Option aa):Option aa:=
 bif ((List.length a0:Int)==(0:Int)) then
  kf (0:Int)
 else
  SG N a0 (fun iO=>
   bif (!iO) then
    kf (0:Int)
   else
    adB N a0 (1:Int) (fun gp=>
     adB N a0 (2:Int) (fun apv=>
      bif ((IntKind.wrap .i64 (gp - apv))==(0:Int)) then
       arB N a0 (1:Int) (fun avY=>
        arB N a0 (2:Int) (fun avZ=>
         V3 N a0 kf (IntKind.wrap .i64 (avY - avZ))))
      else
       V3 N a0 kf (IntKind.wrap .i64 (gp - apv)))))
noncomputable def Dr (N:Nat) (a0:(List QT)) (kf:(List QT)→Bool→Option aa) (adC:(List QT)):Option aa:=
 uj N adC (fun ai5=>
  bif (!ai5) then
   Fj N a0 (fun ai6=>
    kf ai6 false)
  else
   kf adC true)
noncomputable def Zz (N:Nat) (a0:(List QT)) (a1:Int) (a2:Int) (a3:Int) (a4:Int) (a5:Int) (kf:(List QT)→Bool→Option aa):Option aa:=
 Fj N a0 (fun aF=>
  vG N a0 a1 (fun ab=>
   vG N a0 a2 (fun aE=>
    uj N a0 (fun Fa=>
     bif (!Fa) then
      kf aF false
     else
      bif (decide (ab<(0:Int))) then
       kf aF false
      else
       bif (decide (aE<(0:Int))) then
        kf aF false
       else
        bif (ab==aE) then
         kf aF false
        else
         gT N a3 (1:Int) (2:Int) (fun NX=>
          bif (!NX) then
           kf aF false
          else
           gT N a4 (0:Int) (1000:Int) (fun adk=>
            bif (!adk) then
             kf aF false
            else
             gT N a5 (0:Int) (1000:Int) (fun adl=>
              bif (!adl) then
               kf aF false
              else
               bif (aO ab (List.length aF)) then
                bif (decide ((List.length (List.getD aF (Int.toNat ab) ak).2.2.2.2.2+List.length [a2])*1≤4398046511104)) then
                 bif (aO ab (List.length aF)) then
                  bif (Nat.beq (Int.toNat ab) (Int.toNat ab)) then
                   bif (aO aE (List.length (List.set aF (Int.toNat ab) ((List.getD aF (Int.toNat ab) ak).1,((List.getD aF (Int.toNat ab) ak).2.1,((List.getD aF (Int.toNat ab) ak).2.2.1,((List.getD aF (Int.toNat ab) ak).2.2.2.1,((List.getD aF (Int.toNat ab) ak).2.2.2.2.1,((List.getD aF (Int.toNat ab) ak).2.2.2.2.2++[a2]))))))))) then
                    bif (decide ((List.length (List.getD (List.set aF (Int.toNat ab) ((List.getD aF (Int.toNat ab) ak).1,((List.getD aF (Int.toNat ab) ak).2.1,((List.getD aF (Int.toNat ab) ak).2.2.1,((List.getD aF (Int.toNat ab) ak).2.2.2.1,((List.getD aF (Int.toNat ab) ak).2.2.2.2.1,((List.getD aF (Int.toNat ab) ak).2.2.2.2.2++[a2]))))))) (Int.toNat aE) ak).2.2.2.2.2+List.length [a1])*1≤4398046511104)) then
                     bif (aO aE (List.length (List.set aF (Int.toNat ab) ((List.getD aF (Int.toNat ab) ak).1,((List.getD aF (Int.toNat ab) ak).2.1,((List.getD aF (Int.toNat ab) ak).2.2.1,((List.getD aF (Int.toNat ab) ak).2.2.2.1,((List.getD aF (Int.toNat ab) ak).2.2.2.2.1,((List.getD aF (Int.toNat ab) ak).2.2.2.2.2++[a2]))))))))) then
                      bif (Nat.beq (Int.toNat aE) (Int.toNat aE)) then
                       share (List.set (List.set aF (Int.toNat ab) ((List.getD aF (Int.toNat ab) ak).1,((List.getD aF (Int.toNat ab) ak).2.1,((List.getD aF (Int.toNat ab) ak).2.2.1,((List.getD aF (Int.toNat ab) ak).2.2.2.1,((List.getD aF (Int.toNat ab) ak).2.2.2.2.1,((List.getD aF (Int.toNat ab) ak).2.2.2.2.2++[a2]))))))) (Int.toNat aE) ((List.getD (List.set aF (Int.toNat ab) ((List.getD aF (Int.toNat ab) ak).1,((List.getD aF (Int.toNat ab) ak).2.1,((List.getD aF (Int.toNat ab) ak).2.2.1,((List.getD aF (Int.toNat ab) ak).2.2.2.1,((List.getD aF (Int.toNat ab) ak).2.2.2.2.1,((List.getD aF (Int.toNat ab) ak).2.2.2.2.2++[a2]))))))) (Int.toNat aE) ak).1,((List.getD (List.set aF (Int.toNat ab) ((List.getD aF (Int.toNat ab) ak).1,((List.getD aF (Int.toNat ab) ak).2.1,((List.getD aF (Int.toNat ab) ak).2.2.1,((List.getD aF (Int.toNat ab) ak).2.2.2.1,((List.getD aF (Int.toNat ab) ak).2.2.2.2.1,((List.getD aF (Int.toNat ab) ak).2.2.2.2.2++[a2]))))))) (Int.toNat aE) ak).2.1,((List.getD (List.set aF (Int.toNat ab) ((List.getD aF (Int.toNat ab) ak).1,((List.getD aF (Int.toNat ab) ak).2.1,((List.getD aF (Int.toNat ab) ak).2.2.1,((List.getD aF (Int.toNat ab) ak).2.2.2.1,((List.getD aF (Int.toNat ab) ak).2.2.2.2.1,((List.getD aF (Int.toNat ab) ak).2.2.2.2.2++[a2]))))))) (Int.toNat aE) ak).2.2.1,((List.getD (List.set aF (Int.toNat ab) ((List.getD aF (Int.toNat ab) ak).1,((List.getD aF (Int.toNat ab) ak).2.1,((List.getD aF (Int.toNat ab) ak).2.2.1,((List.getD aF (Int.toNat ab) ak).2.2.2.1,((List.getD aF (Int.toNat ab) ak).2.2.2.2.1,((List.getD aF (Int.toNat ab) ak).2.2.2.2.2++[a2]))))))) (Int.toNat aE) ak).2.2.2.1,((List.getD (List.set aF (Int.toNat ab) ((List.getD aF (Int.toNat ab) ak).1,((List.getD aF (Int.toNat ab) ak).2.1,((List.getD aF (Int.toNat ab) ak).2.2.1,((List.getD aF (Int.toNat ab) ak).2.2.2.1,((List.getD aF (Int.toNat ab) ak).2.2.2.2.1,((List.getD aF (Int.toNat ab) ak).2.2.2.2.2++[a2]))))))) (Int.toNat aE) ak).2.2.2.2.1,((List.getD (List.set aF (Int.toNat ab) ((List.getD aF (Int.toNat ab) ak).1,((List.getD aF (Int.toNat ab) ak).2.1,((List.getD aF (Int.toNat ab) ak).2.2.1,((List.getD aF (Int.toNat ab) ak).2.2.2.1,((List.getD aF (Int.toNat ab) ak).2.2.2.2.1,((List.getD aF (Int.toNat ab) ak).2.2.2.2.2++[a2]))))))) (Int.toNat aE) ak).2.2.2.2.2++[a1]))))))) (fun aA=>
                        bif (aO ab (List.length aA)) then
                         bif (aO ab (List.length aA)) then
                          bif (aO ab (List.length (List.set aA (Int.toNat ab) ((List.getD aA (Int.toNat ab) ak).1,((List.getD aA (Int.toNat ab) ak).2.1,((List.getD aA (Int.toNat ab) ak).2.2.1,((List.getD aA (Int.toNat ab) ak).2.2.2.1,((IntKind.wrap .i64 ((List.getD aA (Int.toNat ab) ak).2.2.2.2.1+(1:Int))),(List.getD aA (Int.toNat ab) ak).2.2.2.2.2)))))))) then
                           bif (aO ab (List.length (List.set aA (Int.toNat ab) ((List.getD aA (Int.toNat ab) ak).1,((List.getD aA (Int.toNat ab) ak).2.1,((List.getD aA (Int.toNat ab) ak).2.2.1,((List.getD aA (Int.toNat ab) ak).2.2.2.1,((IntKind.wrap .i64 ((List.getD aA (Int.toNat ab) ak).2.2.2.2.1+(1:Int))),(List.getD aA (Int.toNat ab) ak).2.2.2.2.2)))))))) then
                            share (List.set (List.set aA (Int.toNat ab) ((List.getD aA (Int.toNat ab) ak).1,((List.getD aA (Int.toNat ab) ak).2.1,((List.getD aA (Int.toNat ab) ak).2.2.1,((List.getD aA (Int.toNat ab) ak).2.2.2.1,((IntKind.wrap .i64 ((List.getD aA (Int.toNat ab) ak).2.2.2.2.1+(1:Int))),(List.getD aA (Int.toNat ab) ak).2.2.2.2.2)))))) (Int.toNat ab) ((List.getD (List.set aA (Int.toNat ab) ((List.getD aA (Int.toNat ab) ak).1,((List.getD aA (Int.toNat ab) ak).2.1,((List.getD aA (Int.toNat ab) ak).2.2.1,((List.getD aA (Int.toNat ab) ak).2.2.2.1,((IntKind.wrap .i64 ((List.getD aA (Int.toNat ab) ak).2.2.2.2.1+(1:Int))),(List.getD aA (Int.toNat ab) ak).2.2.2.2.2)))))) (Int.toNat ab) ak).1,((List.getD (List.set aA (Int.toNat ab) ((List.getD aA (Int.toNat ab) ak).1,((List.getD aA (Int.toNat ab) ak).2.1,((List.getD aA (Int.toNat ab) ak).2.2.1,((List.getD aA (Int.toNat ab) ak).2.2.2.1,((IntKind.wrap .i64 ((List.getD aA (Int.toNat ab) ak).2.2.2.2.1+(1:Int))),(List.getD aA (Int.toNat ab) ak).2.2.2.2.2)))))) (Int.toNat ab) ak).2.1,((List.getD (List.set aA (Int.toNat ab) ((List.getD aA (Int.toNat ab) ak).1,((List.getD aA (Int.toNat ab) ak).2.1,((List.getD aA (Int.toNat ab) ak).2.2.1,((List.getD aA (Int.toNat ab) ak).2.2.2.1,((IntKind.wrap .i64 ((List.getD aA (Int.toNat ab) ak).2.2.2.2.1+(1:Int))),(List.getD aA (Int.toNat ab) ak).2.2.2.2.2)))))) (Int.toNat ab) ak).2.2.1,((IntKind.wrap .i64 ((List.getD (List.set aA (Int.toNat ab) ((List.getD aA (Int.toNat ab) ak).1,((List.getD aA (Int.toNat ab) ak).2.1,((List.getD aA (Int.toNat ab) ak).2.2.1,((List.getD aA (Int.toNat ab) ak).2.2.2.1,((IntKind.wrap .i64 ((List.getD aA (Int.toNat ab) ak).2.2.2.2.1+(1:Int))),(List.getD aA (Int.toNat ab) ak).2.2.2.2.2)))))) (Int.toNat ab) ak).2.2.2.1+a4)),(List.getD (List.set aA (Int.toNat ab) ((List.getD aA (Int.toNat ab) ak).1,((List.getD aA (Int.toNat ab) ak).2.1,((List.getD aA (Int.toNat ab) ak).2.2.1,((List.getD aA (Int.toNat ab) ak).2.2.2.1,((IntKind.wrap .i64 ((List.getD aA (Int.toNat ab) ak).2.2.2.2.1+(1:Int))),(List.getD aA (Int.toNat ab) ak).2.2.2.2.2)))))) (Int.toNat ab) ak).2.2.2.2))))) (fun aV=>
                             bif (aO aE (List.length aV)) then
                              bif (aO aE (List.length aV)) then
                               bif (a3==(1:Int)) then
                                bif (aO ab (List.length (List.set aV (Int.toNat aE) ((List.getD aV (Int.toNat aE) ak).1,((List.getD aV (Int.toNat aE) ak).2.1,((List.getD aV (Int.toNat aE) ak).2.2.1,((IntKind.wrap .i64 ((List.getD aV (Int.toNat aE) ak).2.2.2.1+a5)),(List.getD aV (Int.toNat aE) ak).2.2.2.2))))))) then
                                 bif (aO ab (List.length (List.set aV (Int.toNat aE) ((List.getD aV (Int.toNat aE) ak).1,((List.getD aV (Int.toNat aE) ak).2.1,((List.getD aV (Int.toNat aE) ak).2.2.1,((IntKind.wrap .i64 ((List.getD aV (Int.toNat aE) ak).2.2.2.1+a5)),(List.getD aV (Int.toNat aE) ak).2.2.2.2))))))) then
                                  share (List.set (List.set aV (Int.toNat aE) ((List.getD aV (Int.toNat aE) ak).1,((List.getD aV (Int.toNat aE) ak).2.1,((List.getD aV (Int.toNat aE) ak).2.2.1,((IntKind.wrap .i64 ((List.getD aV (Int.toNat aE) ak).2.2.2.1+a5)),(List.getD aV (Int.toNat aE) ak).2.2.2.2))))) (Int.toNat ab) ((List.getD (List.set aV (Int.toNat aE) ((List.getD aV (Int.toNat aE) ak).1,((List.getD aV (Int.toNat aE) ak).2.1,((List.getD aV (Int.toNat aE) ak).2.2.1,((IntKind.wrap .i64 ((List.getD aV (Int.toNat aE) ak).2.2.2.1+a5)),(List.getD aV (Int.toNat aE) ak).2.2.2.2))))) (Int.toNat ab) ak).1,((List.getD (List.set aV (Int.toNat aE) ((List.getD aV (Int.toNat aE) ak).1,((List.getD aV (Int.toNat aE) ak).2.1,((List.getD aV (Int.toNat aE) ak).2.2.1,((IntKind.wrap .i64 ((List.getD aV (Int.toNat aE) ak).2.2.2.1+a5)),(List.getD aV (Int.toNat aE) ak).2.2.2.2))))) (Int.toNat ab) ak).2.1,((IntKind.wrap .i64 ((List.getD (List.set aV (Int.toNat aE) ((List.getD aV (Int.toNat aE) ak).1,((List.getD aV (Int.toNat aE) ak).2.1,((List.getD aV (Int.toNat aE) ak).2.2.1,((IntKind.wrap .i64 ((List.getD aV (Int.toNat aE) ak).2.2.2.1+a5)),(List.getD aV (Int.toNat aE) ak).2.2.2.2))))) (Int.toNat ab) ak).2.2.1+(1:Int))),(List.getD (List.set aV (Int.toNat aE) ((List.getD aV (Int.toNat aE) ak).1,((List.getD aV (Int.toNat aE) ak).2.1,((List.getD aV (Int.toNat aE) ak).2.2.1,((IntKind.wrap .i64 ((List.getD aV (Int.toNat aE) ak).2.2.2.1+a5)),(List.getD aV (Int.toNat aE) ak).2.2.2.2))))) (Int.toNat ab) ak).2.2.2)))) (fun Sq=>
                                   Dr N a0 kf Sq)
                                 else none
                                else none
                               else
                                bif (aO aE (List.length (List.set aV (Int.toNat aE) ((List.getD aV (Int.toNat aE) ak).1,((List.getD aV (Int.toNat aE) ak).2.1,((List.getD aV (Int.toNat aE) ak).2.2.1,((IntKind.wrap .i64 ((List.getD aV (Int.toNat aE) ak).2.2.2.1+a5)),(List.getD aV (Int.toNat aE) ak).2.2.2.2))))))) then
                                 bif (aO aE (List.length (List.set aV (Int.toNat aE) ((List.getD aV (Int.toNat aE) ak).1,((List.getD aV (Int.toNat aE) ak).2.1,((List.getD aV (Int.toNat aE) ak).2.2.1,((IntKind.wrap .i64 ((List.getD aV (Int.toNat aE) ak).2.2.2.1+a5)),(List.getD aV (Int.toNat aE) ak).2.2.2.2))))))) then
                                  share (List.set (List.set aV (Int.toNat aE) ((List.getD aV (Int.toNat aE) ak).1,((List.getD aV (Int.toNat aE) ak).2.1,((List.getD aV (Int.toNat aE) ak).2.2.1,((IntKind.wrap .i64 ((List.getD aV (Int.toNat aE) ak).2.2.2.1+a5)),(List.getD aV (Int.toNat aE) ak).2.2.2.2))))) (Int.toNat aE) ((List.getD (List.set aV (Int.toNat aE) ((List.getD aV (Int.toNat aE) ak).1,((List.getD aV (Int.toNat aE) ak).2.1,((List.getD aV (Int.toNat aE) ak).2.2.1,((IntKind.wrap .i64 ((List.getD aV (Int.toNat aE) ak).2.2.2.1+a5)),(List.getD aV (Int.toNat aE) ak).2.2.2.2))))) (Int.toNat aE) ak).1,((List.getD (List.set aV (Int.toNat aE) ((List.getD aV (Int.toNat aE) ak).1,((List.getD aV (Int.toNat aE) ak).2.1,((List.getD aV (Int.toNat aE) ak).2.2.1,((IntKind.wrap .i64 ((List.getD aV (Int.toNat aE) ak).2.2.2.1+a5)),(List.getD aV (Int.toNat aE) ak).2.2.2.2))))) (Int.toNat aE) ak).2.1,((IntKind.wrap .i64 ((List.getD (List.set aV (Int.toNat aE) ((List.getD aV (Int.toNat aE) ak).1,((List.getD aV (Int.toNat aE) ak).2.1,((List.getD aV (Int.toNat aE) ak).2.2.1,((IntKind.wrap .i64 ((List.getD aV (Int.toNat aE) ak).2.2.2.1+a5)),(List.getD aV (Int.toNat aE) ak).2.2.2.2))))) (Int.toNat aE) ak).2.2.1+(1:Int))),(List.getD (List.set aV (Int.toNat aE) ((List.getD aV (Int.toNat aE) ak).1,((List.getD aV (Int.toNat aE) ak).2.1,((List.getD aV (Int.toNat aE) ak).2.2.1,((IntKind.wrap .i64 ((List.getD aV (Int.toNat aE) ak).2.2.2.1+a5)),(List.getD aV (Int.toNat aE) ak).2.2.2.2))))) (Int.toNat aE) ak).2.2.2)))) (fun arC=>
                                   Dr N a0 kf arC)
                                 else none
                                else none
                              else none
                             else none)
                           else none
                          else none
                         else none
                        else none)
                      else none
                     else none
                    else none
                   else none
                  else none
                 else none
                else none
               else none)))))))
noncomputable def tK (a0:(List Int)) (a1:Int) (kf:(List Int)→Option aa) (np:Int):Option aa:=
 bif (decide ((0:Int)≤(0:Int))&&decide ((0:Int)≤np)&&decide (np≤(List.length a0:Int))) then
  bif (decide ((0:Int)≤np)&&decide (np≤(List.length a0:Int))&&decide ((List.length a0:Int)≤(List.length a0:Int))) then
   bif (decide ((List.length ([]:(List Int))+List.length (List.drop (Int.toNat (0:Int)) (List.take (Int.toNat np) a0)))*1≤4398046511104)) then
    bif (decide ((List.length (([]:(List Int))++(List.drop (Int.toNat (0:Int)) (List.take (Int.toNat np) a0)))+List.length [a1])*1≤4398046511104)) then
     bif (decide ((List.length ((([]:(List Int))++(List.drop (Int.toNat (0:Int)) (List.take (Int.toNat np) a0)))++[a1])+List.length (List.drop (Int.toNat np) (List.take (Int.toNat (List.length a0:Int)) a0)))*1≤4398046511104)) then
      kf (((([]:(List Int))++(List.drop (Int.toNat (0:Int)) (List.take (Int.toNat np) a0)))++[a1])++(List.drop (Int.toNat np) (List.take (Int.toNat (List.length a0:Int)) a0)))
     else none
    else none
   else none
  else none
 else none
noncomputable def qG (ae:(List Int)) (aw:Int):Nat→(Int→Option aa)→Int→Option aa
 |0,_,_=>none
 |Ax+1,bV,aK=>
  bif (decide (aK<(List.length ae:Int))) then
   bif (aO aK (List.length ae)) then
    bif (decide ((List.getD ae (Int.toNat aK) (0:Int))<aw)) then
     (qG ae aw Ax bV) (IntKind.wrap .i64 (aK+(1:Int)))
    else
     bV aK
   else none
  else
   bV aK
noncomputable def vI (N:Nat) (a0:(List Int)) (a1:Int) (kf:(List Int)→Option aa):Option aa:=
 qG a0 a1 N (fun np=>
  bif (decide (np<(List.length a0:Int))) then
   bif (aO np (List.length a0)) then
    bif ((List.getD a0 (Int.toNat np) (0:Int))==a1) then
     bif (decide ((List.length ([]:(List Int))+List.length a0)*1≤4398046511104)) then
      kf (([]:(List Int))++a0)
     else none
    else
     tK a0 a1 kf np
   else none
  else
   tK a0 a1 kf np) (0:Int)
noncomputable def sH (N:Nat) (fv:QC) (adD:QC):Nat→(QC→Bool→Option aa)→QC→Bool→Int→Option aa
 |0,_,_,_,_=>none
 |Zj+1,qH,ef,xK,mV=>
  bif (decide (mV<(List.length fv.2.2.1:Int))) then
   bif (aO mV (List.length fv.2.2.2.2.1)) then
    bif (aO mV (List.length fv.2.2.1)) then
     bif (aO mV (List.length fv.2.2.1)) then
      Zy N [(List.getD fv.2.2.2.2.1 (Int.toNat mV) fg)] (fun Ft=>
       Zz N ef.1 (List.getD fv.2.2.1 (Int.toNat mV) cO).1 (List.getD fv.2.2.1 (Int.toNat mV) cO).2 Ft (List.getD fv.2.2.2.2.1 (Int.toNat mV) fg).2.1 (List.getD fv.2.2.2.2.1 (Int.toNat mV) fg).2.2 (fun sI p9=>
        bif xK then
         bif (aO mV (List.length fv.2.2.2.1)) then
          Fo N ef.2.1 (List.getD fv.2.2.2.1 (Int.toNat mV) (0:Int)) (fun fm=>
           bif (aO fm (List.length ef.2.1)) then
            bif (aO mV (List.length fv.2.2.1)) then
             bif (aO mV (List.length fv.2.2.1)) then
              vI N (List.getD ef.2.1 (Int.toNat fm) ck).2.2 (List.getD fv.2.2.1 (Int.toNat mV) cO).1 (fun Fu=>
               vI N Fu (List.getD fv.2.2.1 (Int.toNat mV) cO).2 (fun xL=>
                bif (aO fm (List.length ef.2.1)) then
                 (sH N fv adD Zj qH) (sI,((List.set ef.2.1 (Int.toNat fm) ((List.getD ef.2.1 (Int.toNat fm) ck).1,((List.getD ef.2.1 (Int.toNat fm) ck).2.1,xL))),ef.2.2)) p9 (IntKind.wrap .i64 (mV+(1:Int)))
                else none))
             else none
            else none
           else none)
         else none
        else
         bif (aO mV (List.length fv.2.2.2.1)) then
          Fo N ef.2.1 (List.getD fv.2.2.2.1 (Int.toNat mV) (0:Int)) (fun fo=>
           bif (aO fo (List.length ef.2.1)) then
            bif (aO mV (List.length fv.2.2.1)) then
             bif (aO mV (List.length fv.2.2.1)) then
              vI N (List.getD ef.2.1 (Int.toNat fo) ck).2.2 (List.getD fv.2.2.1 (Int.toNat mV) cO).1 (fun vD=>
               vI N vD (List.getD fv.2.2.1 (Int.toNat mV) cO).2 (fun xM=>
                bif (aO fo (List.length ef.2.1)) then
                 (sH N fv adD Zj qH) (sI,((List.set ef.2.1 (Int.toNat fo) ((List.getD ef.2.1 (Int.toNat fo) ck).1,((List.getD ef.2.1 (Int.toNat fo) ck).2.1,xM))),ef.2.2)) false (IntKind.wrap .i64 (mV+(1:Int)))
                else none))
             else none
            else none
           else none)
         else none))
     else none
    else none
   else none
  else
   qH ef xK
noncomputable def S27 (N:Nat) (a0:QC) (kf:QC→Bool→Option aa):Option aa:=
 V1 N a0 (fun uE=>
  SF N a0 (fun cI=>
   bif (!cI) then
    kf uE false
   else
    S94 N a0 (fun E5=>
     bif (!E5) then
      kf uE false
     else
      adz N a0 (fun H7=>
       bif (decide ((List.length H7:Int)>(0:Int))) then
        kf uE false
       else
        sH N a0 (([]:(List QT)),(([]:(List QJ)),(([]:(List br)),(([]:(List Int)),(([]:(List QB)),(([]:(List QL)),(0:Int))))))) N (fun adE av0=>
         Zw N a0 (adE.1,(adE.2.1,(([]:(List br)),(([]:(List Int)),(([]:(List QB)),(adE.2.2.2.2.2.1,(IntKind.wrap .i64 (a0.2.2.2.2.2.2+(List.length a0.2.2.1:Int))))))))) av0 (5:Int) (0:Int) kf) uE true (0:Int)))))
noncomputable def nS (aw:Int) (fu:Int) (cy:QC) (JD:QC) (JE:QC):Nat→(Int→Option aa)→Int→Option aa
 |0,_,_=>none
 |n_8+1,bE,AJ=>
  bif (decide (AJ<(List.length cy.1:Int))) then
   bif (aO AJ (List.length cy.1)) then
    bif (decide ((List.getD cy.1 (Int.toNat AJ) ak).1<aw)) then
     (nS aw fu cy JD JE n_8 bE) (IntKind.wrap .i64 (AJ+(1:Int)))
    else
     bE AJ
   else none
  else
   bE AJ
noncomputable def ZA (N:Nat) (a0:QC) (a1:Int) (a2:Int) (kf:QC→Bool→Option aa):Option aa:=
 V1 N a0 (fun cw=>
  nS a1 a2 a0 (([]:(List QT)),(([]:(List QJ)),(([]:(List br)),(([]:(List Int)),(([]:(List QB)),(([]:(List QL)),(0:Int))))))) cw N (fun o6=>
   bif (decide ((0:Int)≤(0:Int))&&decide ((0:Int)≤o6)&&decide (o6≤(List.length a0.1:Int))) then
    Fj N (List.drop (Int.toNat (0:Int)) (List.take (Int.toNat o6) a0.1)) (fun vJ=>
     bif (decide ((List.length vJ+List.length [(a1,(a2,((0:Int),((0:Int),((0:Int),([]:(List Int)))))))])*6≤4398046511104)) then
      bif (decide ((0:Int)≤o6)&&decide (o6≤(List.length a0.1:Int))&&decide ((List.length a0.1:Int)≤(List.length a0.1:Int))) then
       Fj N (List.drop (Int.toNat o6) (List.take (Int.toNat (List.length a0.1:Int)) a0.1)) (fun Fv=>
        bif (decide ((List.length (vJ++[(a1,(a2,((0:Int),((0:Int),((0:Int),([]:(List Int)))))))])+List.length Fv)*6≤4398046511104)) then
         S94 N a0 (fun arD=>
          Zw N a0 (((vJ++[(a1,(a2,((0:Int),((0:Int),((0:Int),([]:(List Int)))))))])++Fv),cw.2) (!arD) (1:Int) a1 kf)
        else none)
      else none
     else none)
   else none) (0:Int))
noncomputable def nT (aw:Int) (fu:Int) (cy:QC) (JD:QC) (JE:QC):Nat→(Int→Option aa)→Int→Option aa
 |0,_,_=>none
 |n_8+1,bE,AJ=>
  bif (decide (AJ<(List.length cy.2.1:Int))) then
   bif (aO AJ (List.length cy.2.1)) then
    bif (decide ((List.getD cy.2.1 (Int.toNat AJ) ck).1<aw)) then
     (nT aw fu cy JD JE n_8 bE) (IntKind.wrap .i64 (AJ+(1:Int)))
    else
     bE AJ
   else none
  else
   bE AJ
noncomputable def ZB (N:Nat) (a0:QC) (a1:Int) (a2:Int) (kf:QC→Bool→Option aa):Option aa:=
 V1 N a0 (fun cw=>
  nT a1 a2 a0 (([]:(List QT)),(([]:(List QJ)),(([]:(List br)),(([]:(List Int)),(([]:(List QB)),(([]:(List QL)),(0:Int))))))) cw N (fun o6=>
   bif (decide ((0:Int)≤(0:Int))&&decide ((0:Int)≤o6)&&decide (o6≤(List.length a0.2.1:Int))) then
    Ss N (List.drop (Int.toNat (0:Int)) (List.take (Int.toNat o6) a0.2.1)) (fun vJ=>
     bif (decide ((List.length vJ+List.length [(a1,(a2,([]:(List Int))))])*3≤4398046511104)) then
      bif (decide ((0:Int)≤o6)&&decide (o6≤(List.length a0.2.1:Int))&&decide ((List.length a0.2.1:Int)≤(List.length a0.2.1:Int))) then
       Ss N (List.drop (Int.toNat o6) (List.take (Int.toNat (List.length a0.2.1:Int)) a0.2.1)) (fun Fv=>
        bif (decide ((List.length (vJ++[(a1,(a2,([]:(List Int))))])+List.length Fv)*3≤4398046511104)) then
         Zw N a0 (cw.1,(((vJ++[(a1,(a2,([]:(List Int))))])++Fv),cw.2.2)) true (2:Int) a1 kf
        else none)
      else none
     else none)
   else none) (0:Int))
noncomputable def ZC (N:Nat) (a0:QC) (a1:Int) (a2:Int) (a3:Int) (kf:QC→Bool→Option aa):Option aa:=
 V1 N a0 (fun eI=>
  SF N a0 (fun oV=>
   bif (!oV) then
    kf eI false
   else
    gT N a1 (0:Int) (IntKind.wrap .i64 ((List.length a0.2.2.1:Int) - (1:Int))) (fun aE=>
     bif (!aE) then
      kf eI false
     else
      bif (aO a1 (List.length a0.2.2.2.2.1)) then
       bif (!((decide (((List.getD a0.2.2.2.2.1 (Int.toNat a1) fg).1:Int)=(0:Int)))&&((decide (((List.getD a0.2.2.2.2.1 (Int.toNat a1) fg).2.1:Int)=(0:Int)))&&(decide (((List.getD a0.2.2.2.2.1 (Int.toNat a1) fg).2.2:Int)=(0:Int)))))) then
        kf eI false
       else
        bif (aO a1 (List.length a0.2.2.2.1)) then
         bif (aO a1 (List.length eI.2.2.2.2.1)) then
          bif (aO a1 (List.length (List.set eI.2.2.2.2.1 (Int.toNat a1) ((List.getD a0.2.2.2.1 (Int.toNat a1) (0:Int)),(a2,a3))))) then
           bif (aO a1 (List.length a0.2.2.2.1)) then
            N4 N (List.getD (List.set eI.2.2.2.2.1 (Int.toNat a1) ((List.getD a0.2.2.2.1 (Int.toNat a1) (0:Int)),(a2,a3))) (Int.toNat a1) fg) (fun adu=>
             Zw N a0 (eI.1,(eI.2.1,(eI.2.2.1,(eI.2.2.2.1,((List.set eI.2.2.2.2.1 (Int.toNat a1) ((List.getD a0.2.2.2.1 (Int.toNat a1) (0:Int)),(a2,a3))),eI.2.2.2.2.2))))) adu (4:Int) (List.getD a0.2.2.2.1 (Int.toNat a1) (0:Int)) kf)
           else none
          else none
         else none
        else none
      else none)))
noncomputable def fp (N:Nat) (V4:QC):Nat→(dt→QC→Option aa)→dt→QC→Int→Option aa
 |0,_,_,_,_=>none
 |ai7+1,sJ,apw,H8,N6=>
  bif (decide (N6>(0:Int))) then
   lF N apw (4:Int) (fun adF V5=>
    bif (adF==(0:Int)) then
     S21 N H8 (fun arE axk=>
      (fp N V4 ai7 sJ) V5 arE (IntKind.wrap .i64 (N6 - (1:Int))))
    else
     bif (adF==(1:Int)) then
      S27 N H8 (fun arF axl=>
       (fp N V4 ai7 sJ) V5 arF (IntKind.wrap .i64 (N6 - (1:Int))))
     else
      adz N H8 (fun SH=>
       bif (decide ((List.length SH:Int)>(0:Int))) then
        lF N V5 (20:Int) (fun adG av1=>
         bif (aO (0:Int) (List.length SH)) then
          ND N av1 [(-2:Int),(1:Int),(3:Int)] (fun arG av3=>
           ZC N H8 (List.getD SH (Int.toNat (0:Int)) (0:Int)) (IntKind.wrap .i64 ((60:Int)+adG)) (IntKind.wrap .i64 ((IntKind.wrap .i64 ((60:Int)+adG))+arG)) (fun arH axm=>
            (fp N V4 ai7 sJ) av3 arH (IntKind.wrap .i64 (N6 - (1:Int)))))
         else none)
       else
        S21 N H8 (fun arI axn=>
         (fp N V4 ai7 sJ) V5 arI (IntKind.wrap .i64 (N6 - (1:Int))))))
  else
   sJ apw H8
noncomputable def qI (N:Nat) (fu:QC):Nat→(dt→QC→Option aa)→dt→QC→Int→Option aa
 |0,_,_,_,_=>none
 |Jf+1,V6,vB,cy,ai8=>
  lF N vB (3:Int) (fun av4 Zf=>
   bif (decide (ai8≤(IntKind.wrap .i64 ((2:Int)*(IntKind.wrap .i64 ((1:Int)+av4)))))) then
    ZA N cy (IntKind.wrap .i64 ((2:Int)*ai8)) (IntKind.wrap .i64 ((1:Int)+(Int.tmod ai8 (3:Int)))) (fun av5 R2=>
     (qI N fu Jf V6) Zf av5 (IntKind.wrap .i64 (ai8+(1:Int))))
   else
    V6 Zf cy)
noncomputable def qJ (N:Nat) (av6:QC):Nat→(dt→QC→Option aa)→dt→QC→Int→Option aa
 |0,_,_,_,_=>none
 |axo+1,V7,av7,apx,adH=>
  lF N av7 (4:Int) (fun arJ apy=>
   bif (decide (adH≤(IntKind.wrap .i64 ((2:Int)+arJ)))) then
    lF N apy (2:Int) (fun arK av8=>
     ZB N apx (IntKind.wrap .i64 ((10:Int)+adH)) (IntKind.wrap .i64 ((4:Int)+arK)) (fun arL axp=>
      (qJ N av6 axo V7) av8 arL (IntKind.wrap .i64 (adH+(1:Int)))))
   else
    V7 apy apx)
noncomputable def ai9 (N:Nat) (a0:dt) (kf:QC→dt→Option aa):Option aa:=
 S68 N (fun iO=>
  qI N (([]:(List QT)),(([]:(List QJ)),(([]:(List br)),(([]:(List Int)),(([]:(List QB)),(([]:(List QL)),(0:Int))))))) N (fun av9 av'=>
   qJ N (([]:(List QT)),(([]:(List QJ)),(([]:(List br)),(([]:(List Int)),(([]:(List QB)),(([]:(List QL)),(0:Int))))))) N (fun awa awb=>
    lF N awa (9:Int) (fun arM awc=>
     fp N (([]:(List QT)),(([]:(List QJ)),(([]:(List br)),(([]:(List Int)),(([]:(List QB)),(([]:(List QL)),(0:Int))))))) N (fun awd awe=>
      kf awe awd) awc awb arM)) av9 av' (1:Int)) a0 iO (1:Int))
noncomputable def qK (ae:(List Int)) (aw:(List Int)) (sG:Int):Nat→(Option aa)→(Bool→Option aa)→Int→Option aa
 |0,_,_,_=>none
 |jU+1,dh,dk,cV=>
  bif (decide (cV<sG)) then
   bif (aO cV (List.length ae)) then
    bif (aO cV (List.length aw)) then
     bif ((List.getD ae (Int.toNat cV) (0:Int)) != (List.getD aw (Int.toNat cV) (0:Int))) then
      dk false
     else
      (qK ae aw sG jU dh dk) (IntKind.wrap .i64 (cV+(1:Int)))
    else none
   else none
  else
   dh
noncomputable def ZD (N:Nat) (a0:(List Int)) (a1:(List Int)) (kf:Bool→Option aa):Option aa:=
 bif ((List.length a0:Int) != (List.length a1:Int)) then
  kf false
 else
  qK a0 a1 (List.length a0:Int) N (kf true) kf (0:Int)
noncomputable def ai' (N:Nat) (a0:QT) (a1:QT) (kf:Bool→Option aa):Option aa:=
 bif (a0.1==a1.1) then
  bif (a0.2.1==a1.2.1) then
   bif (a0.2.2.1==a1.2.2.1) then
    bif (a0.2.2.2.1==a1.2.2.2.1) then
     bif (a0.2.2.2.2.1==a1.2.2.2.2.1) then
      ZD N a0.2.2.2.2.2 a1.2.2.2.2.2 kf
     else
      kf false
    else
     kf false
   else
    kf false
  else
   kf false
 else
  kf false
noncomputable def qL (N:Nat) (ee:(List QT)) (eL:(List QT)) (N7:Int):Nat→(Option aa)→(Bool→Option aa)→Int→Option aa
 |0,_,_,_=>none
 |jU+1,cT,dR,o7=>
  bif (decide (o7<N7)) then
   bif (aO o7 (List.length eL)) then
    bif (aO o7 (List.length ee)) then
     ai' N (List.getD eL (Int.toNat o7) ak) (List.getD ee (Int.toNat o7) ak) (fun Fw=>
      bif (!Fw) then
       dR false
      else
       (qL N ee eL N7 jU cT dR) (IntKind.wrap .i64 (o7+(1:Int))))
    else none
   else none
  else
   cT
noncomputable def aja (N:Nat) (a0:(List QT)) (a1:(List QT)) (kf:Bool→Option aa):Option aa:=
 bif ((List.length a0:Int) != (List.length a1:Int)) then
  kf false
 else
  qL N a1 a0 (List.length a0:Int) N (kf true) kf (0:Int)
noncomputable def ajb (N:Nat) (a0:QJ) (a1:QJ) (kf:Bool→Option aa):Option aa:=
 bif (a0.1==a1.1) then
  bif (a0.2.1==a1.2.1) then
   ZD N a0.2.2 a1.2.2 kf
  else
   kf false
 else
  kf false
noncomputable def qM (N:Nat) (ee:(List QJ)) (eL:(List QJ)) (N7:Int):Nat→(Option aa)→(Bool→Option aa)→Int→Option aa
 |0,_,_,_=>none
 |jU+1,cT,dR,o7=>
  bif (decide (o7<N7)) then
   bif (aO o7 (List.length eL)) then
    bif (aO o7 (List.length ee)) then
     ajb N (List.getD eL (Int.toNat o7) ck) (List.getD ee (Int.toNat o7) ck) (fun Fw=>
      bif (!Fw) then
       dR false
      else
       (qM N ee eL N7 jU cT dR) (IntKind.wrap .i64 (o7+(1:Int))))
    else none
   else none
  else
   cT
noncomputable def ajc (N:Nat) (a0:(List QJ)) (a1:(List QJ)) (kf:Bool→Option aa):Option aa:=
 bif ((List.length a0:Int) != (List.length a1:Int)) then
  kf false
 else
  qM N a1 a0 (List.length a0:Int) N (kf true) kf (0:Int)
noncomputable def qN (ae:(List br)) (aw:(List br)) (sG:Int):Nat→(Option aa)→(Bool→Option aa)→Int→Option aa
 |0,_,_,_=>none
 |jU+1,dh,dk,cV=>
  bif (decide (cV<sG)) then
   bif (aO cV (List.length ae)) then
    bif (aO cV (List.length aw)) then
     bif (!((decide (((List.getD ae (Int.toNat cV) cO).1:Int)=(List.getD aw (Int.toNat cV) cO).1))&&(decide (((List.getD ae (Int.toNat cV) cO).2:Int)=(List.getD aw (Int.toNat cV) cO).2)))) then
      dk false
     else
      (qN ae aw sG jU dh dk) (IntKind.wrap .i64 (cV+(1:Int)))
    else none
   else none
  else
   dh
noncomputable def ajd (N:Nat) (a0:(List br)) (a1:(List br)) (kf:Bool→Option aa):Option aa:=
 bif ((List.length a0:Int) != (List.length a1:Int)) then
  kf false
 else
  qN a0 a1 (List.length a0:Int) N (kf true) kf (0:Int)
noncomputable def qO (ae:(List QB)) (aw:(List QB)) (sG:Int):Nat→(Option aa)→(Bool→Option aa)→Int→Option aa
 |0,_,_,_=>none
 |jU+1,dh,dk,cV=>
  bif (decide (cV<sG)) then
   bif (aO cV (List.length ae)) then
    bif (aO cV (List.length aw)) then
     bif (!((decide (((List.getD ae (Int.toNat cV) fg).1:Int)=(List.getD aw (Int.toNat cV) fg).1))&&((decide (((List.getD ae (Int.toNat cV) fg).2.1:Int)=(List.getD aw (Int.toNat cV) fg).2.1))&&(decide (((List.getD ae (Int.toNat cV) fg).2.2:Int)=(List.getD aw (Int.toNat cV) fg).2.2))))) then
      dk false
     else
      (qO ae aw sG jU dh dk) (IntKind.wrap .i64 (cV+(1:Int)))
    else none
   else none
  else
   dh
noncomputable def aje (N:Nat) (a0:(List QB)) (a1:(List QB)) (kf:Bool→Option aa):Option aa:=
 bif ((List.length a0:Int) != (List.length a1:Int)) then
  kf false
 else
  qO a0 a1 (List.length a0:Int) N (kf true) kf (0:Int)
noncomputable def I42 (N:Nat) (a0:QC) (a1:QC) (kf:Bool→Option aa):Option aa:=
 bif (a0.2.2.2.2.2.2==a1.2.2.2.2.2.2) then
  aja N a0.1 a1.1 (fun awf=>
   bif awf then
    ajc N a0.2.1 a1.2.1 (fun awg=>
     bif awg then
      ajd N a0.2.2.1 a1.2.2.1 (fun awh=>
       bif awh then
        ZD N a0.2.2.2.1 a1.2.2.2.1 (fun adp=>
         bif adp then
          aje N a0.2.2.2.2.1 a1.2.2.2.2.1 (fun NX=>
           bif NX then
            S76 N a0.2.2.2.2.2.1 a1.2.2.2.2.2.1 kf
           else
            kf false)
         else
          kf false)
       else
        kf false)
     else
      kf false)
   else
    kf false)
 else
  kf false
noncomputable def vK (N:Nat) (AF:QC) (bK:(List QL)) (rp:Int):Nat→(QC→Option aa)→QC→Int→Option aa
 |0,_,_,_=>none
 |VW+1,tL,aK,ka=>
  bif (decide (ka<rp)) then
   bif (aO ka (List.length bK)) then
    I13 N aK (List.getD bK (Int.toNat ka) xD) (fun E8 awi=>
     (vK N AF bK rp VW tL) E8 (IntKind.wrap .i64 (ka+(1:Int))))
   else none
  else
   tL aK
noncomputable def I43 (N:Nat) (a0:QC) (a1:(List QL)) (kf:QC→Option aa):Option aa:=
 H4 N a0 (fun iO=>
  vK N (([]:(List QT)),(([]:(List QJ)),(([]:(List br)),(([]:(List Int)),(([]:(List QB)),(([]:(List QL)),(0:Int))))))) a1 (List.length a1:Int) N kf iO (0:Int))
noncomputable def L44 (N:Nat) (a0:(List Int)) (a1:Int) (kf:Int→Option aa):Option aa:=
 bif (decide (a1<(List.length a0:Int))) then
  bif (aO a1 (List.length a0)) then
   kf (IntKind.wrap .i64 (List.getD a0 (Int.toNat a1) (0:Int)))
  else none
 else
  kf (Int.tmod (IntKind.wrap .i64 ((IntKind.wrap .i64 (a1*(31:Int)))+(IntKind.wrap .i64 ((List.length a0:Int)*(7:Int))))) (256:Int))
noncomputable def vL (ee:Int) (la:(List QL)) (iP:Int):Nat→(Int→Option aa)→Int→Int→Option aa
 |0,_,_,_=>none
 |Jf+1,cq,ft,eZ=>
  bif (decide (eZ<iP)) then
   bif (aO eZ (List.length la)) then
    bif ((List.getD la (Int.toNat eZ) xD).1==ee) then
     (vL ee la iP Jf cq) (IntKind.wrap .i64 (ft+(1:Int))) (IntKind.wrap .i64 (eZ+(1:Int)))
    else
     (vL ee la iP Jf cq) ft (IntKind.wrap .i64 (eZ+(1:Int)))
   else none
  else
   cq ft
noncomputable def I45 (N:Nat) (a0:(List QL)) (a1:Int) (kf:Int→Option aa):Option aa:=
 vL a1 a0 (List.length a0:Int) N kf (0:Int) (0:Int)
noncomputable def sK (aw:(List Int)) (bK:(List Int)) (rp:Int):Nat→((List QL)→Option aa)→(List QL)→Int→Option aa
 |0,_,_,_=>none
 |VW+1,bE,aK,ka=>
  bif (decide (ka<rp)) then
   bif (aO ka (List.length bK)) then
    bif (decide ((IntKind.wrap .i64 ((IntKind.wrap .i64 ((2:Int)*ka))+(1:Int)))<(List.length aw:Int))) then
     bif (aO (IntKind.wrap .i64 ((2:Int)*ka)) (List.length aw)) then
      bif (aO (IntKind.wrap .i64 ((IntKind.wrap .i64 ((2:Int)*ka))+(1:Int))) (List.length aw)) then
       bif (decide ((List.length aK+List.length [((4:Int),((List.getD aw (Int.toNat (IntKind.wrap .i64 ((2:Int)*ka))) (0:Int)),((List.getD aw (Int.toNat (IntKind.wrap .i64 ((IntKind.wrap .i64 ((2:Int)*ka))+(1:Int)))) (0:Int)),(List.getD bK (Int.toNat ka) (0:Int)))))])*4≤4398046511104)) then
        (sK aw bK rp VW bE) (aK++[((4:Int),((List.getD aw (Int.toNat (IntKind.wrap .i64 ((2:Int)*ka))) (0:Int)),((List.getD aw (Int.toNat (IntKind.wrap .i64 ((IntKind.wrap .i64 ((2:Int)*ka))+(1:Int)))) (0:Int)),(List.getD bK (Int.toNat ka) (0:Int)))))]) (IntKind.wrap .i64 (ka+(1:Int)))
       else none
      else none
     else none
    else
     (sK aw bK rp VW bE) aK (IntKind.wrap .i64 (ka+(1:Int)))
   else none
  else
   bE aK
noncomputable def I46 (N:Nat) (a0:QC) (a1:(List Int)) (kf:(List QL)→Option aa):Option aa:=
 I41 N a0 (fun dy=>
  sK a1 dy (List.length dy:Int) N kf ([]:(List QL)) (0:Int))
noncomputable def S47 (N:Nat) (a0:(List Int)) (kf:QC→QL→Option aa):Option aa:=
 S67 N a0 (fun ac0=>
  ai9 N ac0 (fun NT aiS=>
   acW N aiS (fun apz axq=>
    Zg N axq (9:Int) (fun NI axr=>
     bif NI then
      lF N axr (9:Int) (fun awj axU=>
       kf NT ((IntKind.wrap .i64 (awj - (1:Int))),apz.2))
     else
      kf NT apz))))
def sL (k:Int):ByteArray:=bif k==1 then⟨#[106,111,105,110]⟩ else bif k==2 then⟨#[106,117,100,103,101]⟩ else bif k==3 then⟨#[112,97,105,114]⟩ else bif k==4 then⟨#[98,97,108,108,111,116]⟩ else bif k==5 then⟨#[99,108,111,115,101]⟩ else bif k==6 then⟨#[108,101,97,118,101]⟩ else⟨#[]⟩
noncomputable def I48 (N:Nat) (a0:Int) (kf:ByteArray→Option aa):Option aa:=
 kf (sL a0)
noncomputable def Ds (g0:Nat→(List Int)→(Bool→Option aa)→Option aa) (g1:Nat→(List Int)→(QC→(List QL)→Option aa)→Option aa) (g2:Nat→QC→(List QL)→(QC→Option aa)→Option aa) (g3:Nat→(List Int)→Int→(Int→Option aa)→Option aa) (g4:Nat→QC→(Bool→Option aa)→Option aa) (g5:Nat→QC→QC→(Bool→Option aa)→Option aa) (g6:Nat→(List QL)→Int→(Int→Option aa)→Option aa) (g7:Nat→QC→(Bool→Option aa)→Option aa) (g8:Nat→QC→(List Int)→((List QL)→Option aa)→Option aa) (g9:Nat→QC→((List Int)→Option aa)→Option aa) (g10:Nat→QC→(QC→Bool→Option aa)→Option aa) (g11:Nat→(List Int)→(QC→QL→Option aa)→Option aa) (g12:Nat→QC→QL→(QC→Bool→Option aa)→Option aa) (g13:(List Int)→QC→Nat→((List Int)→Option aa)→(List Int)→Int→Option aa) (N:Nat) (a0:(List Int)) (kf:Bool→Option aa):Option aa:=
 g11 N a0 (fun adI SI=>
  g12 N adI SI (fun arN SJ=>
   bif SJ then
    bif (!SJ) then
     kf true
    else
     I48 N SI.1 (fun ajf=>
      kf (!(ByteArray.toList ajf==ByteArray.toList s_e)))
   else
    g5 N adI arN (fun arO=>
     bif arO then
      bif (!SJ) then
       kf true
      else
       I48 N SI.1 (fun ajg=>
        kf (!(ByteArray.toList ajg==ByteArray.toList s_e)))
     else
      kf false)))
noncomputable def qP (V8:(List Int)) (j8:QC):Nat→((List Int)→Option aa)→(List Int)→Int→Option aa
 |0,_,_,_=>none
 |axs+1,o8,jM,V9=>
  bif (decide (V9<(List.length j8.2.2.1:Int))) then
   bif (decide ((List.length jM+List.length [(IntKind.wrap .i64 ((70:Int)+V9)),(60:Int)])*1≤4398046511104)) then
    (qP V8 j8 axs o8) (jM++[(IntKind.wrap .i64 ((70:Int)+V9)),(60:Int)]) (IntKind.wrap .i64 (V9+(1:Int)))
   else none
  else
   o8 jM
noncomputable def arP (g0:Nat→(List Int)→(Bool→Option aa)→Option aa) (g1:Nat→(List Int)→(QC→(List QL)→Option aa)→Option aa) (g2:Nat→QC→(List QL)→(QC→Option aa)→Option aa) (g3:Nat→(List Int)→Int→(Int→Option aa)→Option aa) (g4:Nat→QC→(Bool→Option aa)→Option aa) (g5:Nat→QC→QC→(Bool→Option aa)→Option aa) (g6:Nat→(List QL)→Int→(Int→Option aa)→Option aa) (g7:Nat→QC→(Bool→Option aa)→Option aa) (g8:Nat→QC→(List Int)→((List QL)→Option aa)→Option aa) (g9:Nat→QC→((List Int)→Option aa)→Option aa) (g10:Nat→QC→(QC→Bool→Option aa)→Option aa) (g11:Nat→(List Int)→(QC→QL→Option aa)→Option aa) (g12:Nat→QC→QL→(QC→Bool→Option aa)→Option aa) (g13:(List Int)→QC→Nat→((List Int)→Option aa)→(List Int)→Int→Option aa) (N:Nat) (a0:(List Int)) (kf:Bool→Option aa):Option aa:=
 g0 N a0 (fun NL=>
  bif NL then
   kf true
  else
   g1 N a0 (fun apA lQ=>
    g2 N apA lQ (fun H9=>
     g3 N a0 (3:Int) (fun Cs=>
      bif (!decide ((List.length lQ:Int)=0)) then
       g4 N H9 (fun Fm=>
        bif (!Fm) then
         kf false
        else
         bif (decide ((0:Int)≤(0:Int))&&decide ((0:Int)≤(Int.tmod Cs (List.length lQ:Int)))&&decide ((Int.tmod Cs (List.length lQ:Int))≤(List.length lQ:Int))) then
          bif (decide ((0:Int)≤(Int.tmod Cs (List.length lQ:Int)))&&decide ((Int.tmod Cs (List.length lQ:Int))≤(List.length lQ:Int))&&decide ((List.length lQ:Int)≤(List.length lQ:Int))) then
           g2 N apA (List.drop 0 (List.take (Int.toNat (Int.tmod Cs (List.length lQ:Int))) lQ)) (fun VX=>
            g2 N VX (List.drop (Int.toNat (Int.tmod Cs (List.length lQ:Int))) (List.take (Int.toNat (List.length lQ:Int)) lQ)) (fun awk=>
             g5 N H9 awk (fun awl=>
              bif (!awl) then
               kf false
              else
               g6 N lQ (1:Int) (fun arQ=>
                bif (decide (arQ<(2:Int))) then
                 kf false
                else
                 g7 N H9 (fun arR=>
                  bif arR then
                   g13 a0 H9 N (fun awm=>
                    g8 N H9 awm (fun arS=>
                     g2 N H9 arS (fun adJ=>
                      g9 N adJ (fun arT=>
                       bif ((List.length arT:Int) != (0:Int)) then
                        kf false
                       else
                        g10 N adJ (fun axt arU=>
                         bif (!arU) then
                          kf false
                         else
                          Ds g0 g1 g2 g3 g4 g5 g6 g7 g8 g9 g10 g11 g12 g13 N a0 kf))))) ([]:(List Int)) (0:Int)
                  else
                   Ds g0 g1 g2 g3 g4 g5 g6 g7 g8 g9 g10 g11 g12 g13 N a0 kf)))))
          else none
         else none)
      else none))))
noncomputable def L7 (N:Nat) (a0:(List Int)) (kf:Bool→Option aa):Option aa:=arP L11 S12 I43 L44 I39 I42 I45 R4 I46 I41 I28 S47 I13 qP N a0 kf
noncomputable def mW (N:Nat) (a0:QC) (a1:Int) (kf:QC→Bool→Option aa):Option aa:=
 V1 N a0 (fun iO=>
  vG N a0.1 a1 (fun gp=>
   bif (decide (gp<(0:Int))) then
    kf iO false
   else
    S94 N a0 (fun E5=>
     bif E5 then
      kf iO false
     else
      bif (aO gp (List.length a0.1)) then
       bif (decide ((List.length (List.getD a0.1 (Int.toNat gp) ak).2.2.2.2.2:Int)>(0:Int))) then
        kf iO false
       else
        bif (decide ((0:Int)≤(0:Int))&&decide ((0:Int)≤gp)&&decide (gp≤(List.length a0.1:Int))) then
         bif (decide ((0:Int)≤(IntKind.wrap .i64 (gp+(1:Int))))&&decide ((IntKind.wrap .i64 (gp+(1:Int)))≤(List.length a0.1:Int))&&decide ((List.length a0.1:Int)≤(List.length a0.1:Int))) then
          Fj N (List.drop (Int.toNat (0:Int)) (List.take (Int.toNat gp) a0.1)) (fun apB=>
           Fj N (List.drop (Int.toNat (IntKind.wrap .i64 (gp+(1:Int)))) (List.take (Int.toNat (List.length a0.1:Int)) a0.1)) (fun Ct=>
            bif (decide ((List.length apB+List.length Ct)*6≤4398046511104)) then
             Zw N a0 ((apB++Ct),iO.2) true (6:Int) a1 kf
            else none))
         else none
        else none
      else none)))
noncomputable def rq (N:Nat) (a0:QC) (a1:QL) (kf:QC→Bool→Option aa):Option aa:=
 bif (a1.1==(1:Int)) then
  ZA N a0 a1.2.1 a1.2.2.1 kf
 else
  bif (a1.1==(2:Int)) then
   ZB N a0 a1.2.1 a1.2.2.1 kf
  else
   bif (a1.1==(3:Int)) then
    S21 N a0 kf
   else
    bif (a1.1==(4:Int)) then
     ZC N a0 a1.2.2.2 a1.2.1 a1.2.2.1 kf
    else
     bif (a1.1==(5:Int)) then
      S27 N a0 kf
     else
      bif (a1.1==(6:Int)) then
       mW N a0 a1.2.1 kf
      else
       V1 N a0 (fun Sr=>
        kf Sr false)
end Go.Pv.R
