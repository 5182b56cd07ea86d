/- What the functions compute, as plain functions. -/
import Derived.Test.YtcpakhaogbempaaGreatPv4
namespace Go.Pv.R
set_option linter.unusedVariables false
set_option linter.unusedSimpArgs false
abbrev bY:Ty:=(.pair (.int .i64) (.pair (.int .i64) (.sl (.int .i64))))
abbrev QJ:Type:=(Int×(Int×(List Int)))
def cg:QJ:=((0:Int),((0:Int),([]:(List Int))))
abbrev bo:Ty:=(.pair (.int .i64) (.pair (.int .i64) (.pair (.int .i64) (.pair (.int .i64) (.pair (.int .i64) (.sl (.int .i64)))))))
abbrev QT:Type:=(Int×(Int×(Int×(Int×(Int×(List Int))))))
def ax:QT:=((0:Int),((0:Int),((0:Int),((0:Int),((0:Int),([]:(List Int)))))))
abbrev aP:Ty:=(.pair (.int .i64) (.int .i64))
abbrev a8:Type:=(Int×Int)
def cC:a8:=((0:Int),(0:Int))
abbrev dh:Ty:=(.pair (.int .i64) (.pair (.int .i64) (.int .i64)))
abbrev QB:Type:=(Int×(Int×Int))
def fu:QB:=((0:Int),((0:Int),(0:Int)))
abbrev bW:Ty:=(.pair (.int .i64) (.pair (.int .i64) (.pair (.int .i64) (.int .i64))))
abbrev QL:Type:=(Int×(Int×(Int×Int)))
def mf:QL:=((0:Int),((0:Int),((0:Int),(0:Int))))
abbrev Xb:Ty:=(.pair (.sl (.int .u8)) (.pair (.int .i64) (.int .i64)))
abbrev uP:Type:=((List Int)×(Int×Int))
abbrev bM:Ty:=(.pair (.sl bo) (.pair (.sl bY) (.pair (.sl aP) (.pair (.sl (.int .i64)) (.pair (.sl dh) (.pair (.sl bW) (.int .i64)))))))
abbrev QC:Type:=((List QT)×((List QJ)×((List a8)×((List Int)×((List QB)×((List QL)×Int))))))
noncomputable def aR:ByteArray:=⟨#[0,1,2,2,3,3,3,3,4,4,4,4,4,4,4,4,5,5,5,5,5,5,5,5,5,5,5,5,5,5,5,5,6,6,6,6,6,6,6,6,6,6,6,6,6,6,6,6,6,6,6,6,6,6,6,6,6,6,6,6,6,6,6,6,7,7,7,7,7,7,7,7,7,7,7,7,7,7,7,7,7,7,7,7,7,7,7,7,7,7,7,7,7,7,7,7,7,7,7,7,7,7,7,7,7,7,7,7,7,7,7,7,7,7,7,7,7,7,7,7,7,7,7,7,7,7,7,7,8,8,8,8,8,8,8,8,8,8,8,8,8,8,8,8,8,8,8,8,8,8,8,8,8,8,8,8,8,8,8,8,8,8,8,8,8,8,8,8,8,8,8,8,8,8,8,8,8,8,8,8,8,8,8,8,8,8,8,8,8,8,8,8,8,8,8,8,8,8,8,8,8,8,8,8,8,8,8,8,8,8,8,8,8,8,8,8,8,8,8,8,8,8,8,8,8,8,8,8,8,8,8,8,8,8,8,8,8,8,8,8,8,8,8,8,8,8,8,8,8,8,8,8,8,8,8,8]⟩
noncomputable def iC (N:Nat) (a0:uP) (kf:Int→uP→Option aa):Option aa:=
 share (IntKind.wrap .i64 ((IntKind.wrap .i64 (a0.2.2*(6364136223846793005:Int)))+(1442695040888963407:Int))) (fun aaA=>
  bif (decide (0≤(33:Int))) then
   bif (decide (0≤(47:Int))) then
    bif (decide (a0.2.1<(List.length a0.1:Int))) then
     bif (aM a0.2.1 (List.length a0.1)) then
      kf (IntKind.wrap .i64 (BitVec.toNat (BitVec.ofInt (IntKind.bits .i64) (IntKind.wrap .i64 ((IntKind.wrap .i64 (BitVec.toNat (BitVec.ofInt (IntKind.bits .i64) (IntKind.wrap .i64 (BitVec.toNat (BitVec.ofInt (IntKind.bits .i64) (Int.fdiv aaA (2^(min (Int.toNat (33:Int)) (IntKind.bits .i64))))^^^BitVec.ofInt (IntKind.bits .i64) (Int.fdiv aaA (2^(min (Int.toNat (47:Int)) (IntKind.bits .i64)))))))&&&BitVec.ofInt (IntKind.bits .i64) (255:Int))))+(IntKind.wrap .i64 (List.getD a0.1 (Int.toNat a0.2.1) (0:Int)))))&&&BitVec.ofInt (IntKind.bits .i64) (255:Int)))) (a0.1,((IntKind.wrap .i64 (a0.2.1+(1:Int))),aaA))
     else none
    else
     kf (IntKind.wrap .i64 (BitVec.toNat (BitVec.ofInt (IntKind.bits .i64) (IntKind.wrap .i64 (BitVec.toNat (BitVec.ofInt (IntKind.bits .i64) (Int.fdiv aaA (2^(min (Int.toNat (33:Int)) (IntKind.bits .i64))))^^^BitVec.ofInt (IntKind.bits .i64) (Int.fdiv aaA (2^(min (Int.toNat (47:Int)) (IntKind.bits .i64)))))))&&&BitVec.ofInt (IntKind.bits .i64) (255:Int)))) (a0.1,(a0.2.1,aaA))
   else none
  else none)
noncomputable def ln (N:Nat) (a0:uP) (a1:Int) (kf:Int→uP→Option aa):Option aa:=
 bif (decide (a1≤(0:Int))) then
  kf (0:Int) a0
 else
  bif (decide (a1≤(256:Int))) then
   iC N a0 (fun eh auV=>
    bif (!decide (a1=0)) then
     kf (Int.tmod eh a1) auV
    else none)
  else
   iC N a0 (fun azK aBj=>
    iC N aBj (fun aeq aBk=>
     iC N aBk (fun xw auW=>
      bif (!decide (a1=0)) then
       kf (Int.tmod (IntKind.wrap .i64 ((IntKind.wrap .i64 ((IntKind.wrap .i64 (azK*(65536:Int)))+(IntKind.wrap .i64 (aeq*(256:Int)))))+xw)) a1) auW
      else none)))
noncomputable def CI (N:Nat) (a0:uP) (a1:Int) (kf:Bool→uP→Option aa):Option aa:=
 ln N a0 a1 (fun Fe auV=>
  kf (Fe==(0:Int)) auV)
noncomputable def Jc (N:Nat) (a0:(List Int)) (kf:(List Int)→Option aa):Option aa:=
 bif (List.isEmpty a0) then
  both (kf ([]:(List Int))) (
   bif (decide ((List.length ([]:(List Int))+List.length a0)*1≤4398046511104)) then
    kf (([]:(List Int))++a0)
   else none)
 else
  bif (decide ((List.length ([]:(List Int))+List.length a0)*1≤4398046511104)) then
   kf (([]:(List Int))++a0)
  else none
noncomputable def pd (N:Nat) (eE:(List QT)) (nC:Int):Nat→((List QT)→Option aa)→(List QT)→Int→Option aa
 |0,_,_,_=>none
 |mG+1,bJ,bG,jO=>
  bif (decide (jO<nC)) then
   bif (aM jO (List.length eE)) then
    Jc N (List.getD eE (Int.toNat jO) ax).2.2.2.2.2 (fun rF=>
     bif (decide ((List.length bG+List.length [((List.getD eE (Int.toNat jO) ax).1,((List.getD eE (Int.toNat jO) ax).2.1,((List.getD eE (Int.toNat jO) ax).2.2.1,((List.getD eE (Int.toNat jO) ax).2.2.2.1,((List.getD eE (Int.toNat jO) ax).2.2.2.2.1,rF)))))])*6≤4398046511104)) then
      (pd N eE nC mG bJ) (bG++[((List.getD eE (Int.toNat jO) ax).1,((List.getD eE (Int.toNat jO) ax).2.1,((List.getD eE (Int.toNat jO) ax).2.2.1,((List.getD eE (Int.toNat jO) ax).2.2.2.1,((List.getD eE (Int.toNat jO) ax).2.2.2.2.1,rF)))))]) (IntKind.wrap .i64 (jO+(1:Int)))
     else none)
   else none
  else
   bJ bG
noncomputable def Sy (N:Nat) (a0:(List QT)) (kf:(List QT)→Option aa):Option aa:=
 pd N a0 (List.length a0:Int) N kf ([]:(List QT)) (0:Int)
noncomputable def pf (N:Nat) (eE:(List QJ)) (nC:Int):Nat→((List QJ)→Option aa)→(List QJ)→Int→Option aa
 |0,_,_,_=>none
 |mG+1,bJ,bG,jO=>
  bif (decide (jO<nC)) then
   bif (aM jO (List.length eE)) then
    Jc N (List.getD eE (Int.toNat jO) cg).2.2 (fun rF=>
     bif (decide ((List.length bG+List.length [((List.getD eE (Int.toNat jO) cg).1,((List.getD eE (Int.toNat jO) cg).2.1,rF))])*3≤4398046511104)) then
      (pf N eE nC mG bJ) (bG++[((List.getD eE (Int.toNat jO) cg).1,((List.getD eE (Int.toNat jO) cg).2.1,rF))]) (IntKind.wrap .i64 (jO+(1:Int)))
     else none)
   else none
  else
   bJ bG
noncomputable def akF (N:Nat) (a0:(List QJ)) (kf:(List QJ)→Option aa):Option aa:=
 pf N a0 (List.length a0:Int) N kf ([]:(List QJ)) (0:Int)
noncomputable def akG (N:Nat) (a0:(List a8)) (kf:(List a8)→Option aa):Option aa:=
 bif (List.isEmpty a0) then
  both (kf ([]:(List a8))) (
   bif (decide ((List.length ([]:(List a8))+List.length a0)*2≤4398046511104)) then
    kf (([]:(List a8))++a0)
   else none)
 else
  bif (decide ((List.length ([]:(List a8))+List.length a0)*2≤4398046511104)) then
   kf (([]:(List a8))++a0)
  else none
noncomputable def akH (N:Nat) (a0:(List QB)) (kf:(List QB)→Option aa):Option aa:=
 bif (List.isEmpty a0) then
  both (kf ([]:(List QB))) (
   bif (decide ((List.length ([]:(List QB))+List.length a0)*3≤4398046511104)) then
    kf (([]:(List QB))++a0)
   else none)
 else
  bif (decide ((List.length ([]:(List QB))+List.length a0)*3≤4398046511104)) then
   kf (([]:(List QB))++a0)
  else none
noncomputable def aaB (N:Nat) (a0:(List QL)) (kf:(List QL)→Option aa):Option aa:=
 bif (List.isEmpty a0) then
  both (kf ([]:(List QL))) (
   bif (decide ((List.length ([]:(List QL))+List.length a0)*4≤4398046511104)) then
    kf (([]:(List QL))++a0)
   else none)
 else
  bif (decide ((List.length ([]:(List QL))+List.length a0)*4≤4398046511104)) then
   kf (([]:(List QL))++a0)
  else none
noncomputable def H8 (N:Nat) (a0:QC) (kf:QC→Option aa):Option aa:=
 Sy N a0.1 (fun Ff=>
  akF N a0.2.1 (fun auX=>
   akG N a0.2.2.1 (fun azL=>
    Jc N a0.2.2.2.1 (fun NF=>
     akH N a0.2.2.2.2.1 (fun aeq=>
      aaB N a0.2.2.2.2.2.1 (fun azM=>
       kf (Ff,(auX,(azL,(NF,(aeq,(azM,a0.2.2.2.2.2.2))))))))))))
noncomputable def akI (N:Nat) (a0:QT) (a1:Int) (kf:Bool→Option aa):Option aa:=
 kf (a0.1==a1)
noncomputable def pg (N:Nat) (ab:(List QT)) (aj:Int) (rG:Int):Nat→(Option aa)→(Int→Option aa)→Int→Option aa
 |0,_,_,_=>none
 |mG+1,dH,eQ,fk=>
  bif (decide (fk<rG)) then
   bif (aM fk (List.length ab)) then
    akI N (List.getD ab (Int.toNat fk) ax) aj (fun mg=>
     bif mg then
      eQ fk
     else
      (pg N ab aj rG mG dH eQ) (IntKind.wrap .i64 (fk+(1:Int))))
   else none
  else
   dH
noncomputable def auY (N:Nat) (a0:(List QT)) (aer:Int) (kf:Int→Option aa):Option aa:=
 pg N a0 aer (List.length a0:Int) N (kf (-1:Int)) kf (0:Int)
noncomputable def NG (N:Nat) (a0:(List QT)) (a1:Int) (kf:Int→Option aa):Option aa:=
 auY N a0 a1 kf
noncomputable def I16 (N:Nat) (a0:QC) (kf:Bool→Option aa):Option aa:=
 kf (decide ((List.length a0.2.2.1:Int)>(0:Int)))
noncomputable def akJ (N:Nat) (a0:(List QT)) (a1:Int) (a2:(List QT)) (kf:(List QT)→Option aa):Option aa:=
 bif (decide ((0:Int)≤a1)&&(decide (a1≤(List.length a0:Int))&&(Nat.blt 0 (List.length a2)&&Nat.ble ((List.length a0+List.length a2)*Ty.size bo) 4398046511104))) then
  kf (List.take (Int.toNat a1) a0++a2++List.drop (Int.toNat a1) a0)
 else none
noncomputable def auZ (N:Nat) (a0:(List QL)) (kf:Int→Option aa):Option aa:=
 bif ((List.length a0:Int)==(0:Int)) then
  kf (0:Int)
 else
  bif (aM (IntKind.wrap .i64 ((List.length a0:Int) - (1:Int))) (List.length a0)) then
   kf (List.getD a0 (Int.toNat (IntKind.wrap .i64 ((List.length a0:Int) - (1:Int)))) mf).2.2.2
  else none
noncomputable def eF (N:Nat) (a0:Int) (a1:Int) (a2:Int) (kf:Bool→Option aa):Option aa:=
 bif (decide (a1≤a0)) then
  kf (decide (a0≤a2))
 else
  kf false
noncomputable def akK (N:Nat) (a0:Int) (a1:Int) (kf:Int→Option aa):Option aa:=
 eF N a1 (1:Int) (1000000000000:Int) (fun Fe=>
  bif (!Fe) then
   kf (0:Int)
  else
   bif (!decide (a1=0)) then
    bif (decide ((Int.tmod a0 a1)<(0:Int))) then
     kf (IntKind.wrap .i64 ((Int.tmod a0 a1)+a1))
    else
     kf (Int.tmod a0 a1)
   else none)
noncomputable def akL (N:Nat) (a0:Int) (a1:Int) (kf:Int→Option aa):Option aa:=
 akK N a1 (2147483647:Int) (fun ph=>
  kf (Int.tmod (IntKind.wrap .i64 ((IntKind.wrap .i64 ((IntKind.wrap .i64 (a0*(1000003:Int)))+ph))+(13:Int))) (2147483647:Int)))
noncomputable def pj (N:Nat) (iE:(List Int)) (rG:Int):Nat→(Int→Option aa)→Int→Int→Option aa
 |0,_,_,_=>none
 |mG+1,bJ,bG,fk=>
  bif (decide (fk<rG)) then
   bif (aM fk (List.length iE)) then
    akL N bG (List.getD iE (Int.toNat fk) (0:Int)) (fun aes=>
     (pj N iE rG mG bJ) aes (IntKind.wrap .i64 (fk+(1:Int))))
   else none
  else
   bJ bG
noncomputable def akM (N:Nat) (a0:(List Int)) (kf:Int→Option aa):Option aa:=
 pj N a0 (List.length a0:Int) N kf (11:Int) (0:Int)
noncomputable def Sz (N:Nat) (a0:Int) (a1:QL) (kf:Int→Option aa):Option aa:=
 akM N [a0,a1.1,a1.2.1,a1.2.2.1] kf
noncomputable def uQ (N:Nat) (pk:(List QL)) (kD:Int):Nat→(Option aa)→(Bool→Option aa)→Int→Int→Option aa
 |0,_,_,_,_=>none
 |mG+1,il,hJ,bG,n5=>
  bif (decide (n5<kD)) then
   bif (aM n5 (List.length pk)) then
    bif ((List.getD pk (Int.toNat n5) mf).1 != (IntKind.wrap .i64 (n5+(1:Int)))) then
     hJ false
    else
     eF N (List.getD pk (Int.toNat n5) mf).2.1 (1:Int) (9:Int) (fun xx=>
      bif (!xx) then
       hJ false
      else
       eF N (List.getD pk (Int.toNat n5) mf).2.2.1 (0:Int) (99:Int) (fun NH=>
        bif (!NH) then
         hJ false
        else
         Sz N bG (List.getD pk (Int.toNat n5) mf) (fun NI=>
          bif ((List.getD pk (Int.toNat n5) mf).2.2.2 != NI) then
           hJ false
          else
           (uQ N pk kD mG il hJ) (List.getD pk (Int.toNat n5) mf).2.2.2 (IntKind.wrap .i64 (n5+(1:Int))))))
   else none
  else
   il
noncomputable def I75 (N:Nat) (a0:(List QL)) (kf:Bool→Option aa):Option aa:=
 bif (decide ((List.length a0:Int)>(200:Int))) then
  kf false
 else
  uQ N a0 (List.length a0:Int) N (kf true) kf (0:Int) (0:Int)
noncomputable def akN (N:Nat) (a0:(List QL)) (a1:Int) (a2:Int) (kf:(List QL)→Bool→Option aa):Option aa:=
 auZ N a0 (fun aet=>
  Sz N aet ((IntKind.wrap .i64 ((List.length a0:Int)+(1:Int))),(a1,(a2,(0:Int)))) (fun xy=>
   aaB N a0 (fun aeu=>
    bif (decide ((List.length aeu+List.length [((IntKind.wrap .i64 ((List.length a0:Int)+(1:Int))),(a1,(a2,xy)))])*4≤4398046511104)) then
     I75 N (aeu++[((IntKind.wrap .i64 ((List.length a0:Int)+(1:Int))),(a1,(a2,xy)))]) (fun NJ=>
      bif (!NJ) then
       aaB N a0 (fun azN=>
        kf azN false)
      else
       kf (aeu++[((IntKind.wrap .i64 ((List.length a0:Int)+(1:Int))),(a1,(a2,xy)))]) true)
    else none)))
noncomputable def rH (lp:Int) (nC:(List Int)) (jO:Int):Nat→(Int→Option aa)→Int→Int→Option aa
 |0,_,_,_=>none
 |RC+1,cU,fV,gA=>
  bif (decide (gA<jO)) then
   bif (aM gA (List.length nC)) then
    bif ((List.getD nC (Int.toNat gA) (0:Int))==lp) then
     (rH lp nC jO RC cU) (IntKind.wrap .i64 (fV+(1:Int))) (IntKind.wrap .i64 (gA+(1:Int)))
    else
     (rH lp nC jO RC cU) fV (IntKind.wrap .i64 (gA+(1:Int)))
   else none
  else
   cU fV
noncomputable def I78 (N:Nat) (a0:(List Int)) (a1:Int) (kf:Int→Option aa):Option aa:=
 rH a1 a0 (List.length a0:Int) N kf (0:Int) (0:Int)
noncomputable def gP (N:Nat) (tS:(List QT)) (tT:QT) (Jd:(List QT)) (Je:Int) (Jf:Int) (gI:(List Int)) (aev:Int):Nat→(Option aa)→(Bool→Option aa)→Int→Option aa
 |0,_,_,_=>none
 |aBl+1,n6,gQ,AE=>
  bif (decide (AE<aev)) then
   bif (aM AE (List.length gI)) then
    NG N tS (List.getD gI (Int.toNat AE) (0:Int)) (fun uR=>
     bif (decide (uR<(0:Int))) then
      gQ false
     else
      bif ((List.getD gI (Int.toNat AE) (0:Int))==tT.1) then
       gQ false
      else
       bif (aM uR (List.length tS)) then
        I78 N tT.2.2.2.2.2 (List.getD gI (Int.toNat AE) (0:Int)) (fun SA=>
         I78 N (List.getD tS (Int.toNat uR) ax).2.2.2.2.2 tT.1 (fun Jg=>
          bif (SA != Jg) then
           gQ false
          else
           (gP N tS tT Jd Je Jf gI aev aBl n6 gQ) (IntKind.wrap .i64 (AE+(1:Int)))))
       else none)
   else none
  else
   n6
noncomputable def DF (N:Nat) (bI:Bool→Option aa) (au0:Int→Option aa) (ab:(List QT)) (cI:(List QT)) (Fg:Int) (ek:Int):Option aa:=
 gP N ab (List.getD cI (Int.toNat ek) ax) cI Fg ek (List.getD cI (Int.toNat ek) ax).2.2.2.2.2 (List.length (List.getD cI (Int.toNat ek) ax).2.2.2.2.2:Int) N (au0 (IntKind.wrap .i64 (ek+(1:Int)))) bI (0:Int)
noncomputable def mT (N:Nat) (ab:(List QT)) (cI:(List QT)) (Fg:Int):Nat→(Option aa)→(Bool→Option aa)→Int→Option aa
 |0,_,_,_=>none
 |mG+1,pn,bI,ek=>
  bif (decide (ek<Fg)) then
   bif (aM ek (List.length cI)) then
    eF N (List.getD cI (Int.toNat ek) ax).1 (1:Int) (99:Int) (fun xx=>
     bif (!xx) then
      bI false
     else
      bif (decide (ek>(0:Int))) then
       bif (aM (IntKind.wrap .i64 (ek - (1:Int))) (List.length ab)) then
        bif (decide ((List.getD cI (Int.toNat ek) ax).1≤(List.getD ab (Int.toNat (IntKind.wrap .i64 (ek - (1:Int)))) ax).1)) then
         bI false
        else
         eF N (List.getD cI (Int.toNat ek) ax).2.1 (1:Int) (99:Int) (fun aew=>
          bif (!aew) then
           bI false
          else
           bif (decide ((List.length (List.getD cI (Int.toNat ek) ax).2.2.2.2.2:Int)>(20:Int))) then
            bI false
           else
            eF N (List.getD cI (Int.toNat ek) ax).2.2.1 (0:Int) (List.length (List.getD cI (Int.toNat ek) ax).2.2.2.2.2:Int) (fun H9=>
             bif (!H9) then
              bI false
             else
              eF N (List.getD cI (Int.toNat ek) ax).2.2.2.2.1 (0:Int) (List.length (List.getD cI (Int.toNat ek) ax).2.2.2.2.2:Int) (fun aex=>
               bif (!aex) then
                bI false
               else
                eF N (List.getD cI (Int.toNat ek) ax).2.2.2.1 (0:Int) (100000:Int) (fun SB=>
                 bif (!SB) then
                  bI false
                 else
                  DF N bI (mT N ab cI Fg mG pn bI) ab cI Fg ek))))
       else none
      else
       eF N (List.getD cI (Int.toNat ek) ax).2.1 (1:Int) (99:Int) (fun SC=>
        bif (!SC) then
         bI false
        else
         bif (decide ((List.length (List.getD cI (Int.toNat ek) ax).2.2.2.2.2:Int)>(20:Int))) then
          bI false
         else
          eF N (List.getD cI (Int.toNat ek) ax).2.2.1 (0:Int) (List.length (List.getD cI (Int.toNat ek) ax).2.2.2.2.2:Int) (fun SD=>
           bif (!SD) then
            bI false
           else
            eF N (List.getD cI (Int.toNat ek) ax).2.2.2.2.1 (0:Int) (List.length (List.getD cI (Int.toNat ek) ax).2.2.2.2.2:Int) (fun po=>
             bif (!po) then
              bI false
             else
              eF N (List.getD cI (Int.toNat ek) ax).2.2.2.1 (0:Int) (100000:Int) (fun SE=>
               bif (!SE) then
                bI false
               else
                DF N bI (mT N ab cI Fg mG pn bI) ab cI Fg ek)))))
   else none
  else
   pn
noncomputable def AF (N:Nat) (a0:(List QT)) (kf:Bool→Option aa):Option aa:=
 bif (decide ((List.length a0:Int)>(10:Int))) then
  kf false
 else
  mT N a0 a0 (List.length a0:Int) N (kf true) kf (0:Int)
noncomputable def mh (N:Nat) (NK:(List QJ)) (eR:QJ) (Fh:(List QJ)) (Fi:Int) (Fj:Int) (gJ:(List Int)) (SF:Int):Nat→(Option aa)→(Bool→Option aa)→Int→Option aa
 |0,_,_,_=>none
 |azO+1,pq,lq,pr=>
  bif (decide (pr<SF)) then
   bif (aM pr (List.length gJ)) then
    eF N (List.getD gJ (Int.toNat pr) (0:Int)) (1:Int) (99:Int) (fun SG=>
     bif (!SG) then
      lq false
     else
      bif (decide (pr>(0:Int))) then
       bif (aM (IntKind.wrap .i64 (pr - (1:Int))) (List.length eR.2.2)) then
        bif (decide ((List.getD gJ (Int.toNat pr) (0:Int))≤(List.getD eR.2.2 (Int.toNat (IntKind.wrap .i64 (pr - (1:Int)))) (0:Int)))) then
         lq false
        else
         (mh N NK eR Fh Fi Fj gJ SF azO pq lq) (IntKind.wrap .i64 (pr+(1:Int)))
       else none
      else
       (mh N NK eR Fh Fi Fj gJ SF azO pq lq) (IntKind.wrap .i64 (pr+(1:Int))))
   else none
  else
   pq
noncomputable def Jh (N:Nat) (dw:Bool→Option aa) (au1:Int→Option aa) (ab:(List QJ)) (eo:(List QJ)) (eS:Int) (bV:Int):Option aa:=
 mh N ab (List.getD eo (Int.toNat bV) cg) eo eS bV (List.getD eo (Int.toNat bV) cg).2.2 (List.length (List.getD eo (Int.toNat bV) cg).2.2:Int) N (au1 (IntKind.wrap .i64 (bV+(1:Int)))) dw (0:Int)
noncomputable def rI (N:Nat) (ab:(List QJ)) (eo:(List QJ)) (eS:Int):Nat→(Option aa)→(Bool→Option aa)→Int→Option aa
 |0,_,_,_=>none
 |mG+1,pv,dw,bV=>
  bif (decide (bV<eS)) then
   bif (aM bV (List.length eo)) then
    eF N (List.getD eo (Int.toNat bV) cg).1 (1:Int) (99:Int) (fun aey=>
     bif (!aey) then
      dw false
     else
      bif (decide (bV>(0:Int))) then
       bif (aM (IntKind.wrap .i64 (bV - (1:Int))) (List.length ab)) then
        bif (decide ((List.getD eo (Int.toNat bV) cg).1≤(List.getD ab (Int.toNat (IntKind.wrap .i64 (bV - (1:Int)))) cg).1)) then
         dw false
        else
         eF N (List.getD eo (Int.toNat bV) cg).2.1 (1:Int) (99:Int) (fun aez=>
          bif (!aez) then
           dw false
          else
           Jh N dw (rI N ab eo eS mG pv dw) ab eo eS bV)
       else none
      else
       eF N (List.getD eo (Int.toNat bV) cg).2.1 (1:Int) (99:Int) (fun rJ=>
        bif (!rJ) then
         dw false
        else
         Jh N dw (rI N ab eo eS mG pv dw) ab eo eS bV))
   else none
  else
   pv
noncomputable def I79 (N:Nat) (a0:(List QJ)) (kf:Bool→Option aa):Option aa:=
 bif (decide ((List.length a0:Int)>(10:Int))) then
  kf false
 else
  rI N a0 a0 (List.length a0:Int) N (kf true) kf (0:Int)
noncomputable def pw (ab:(List Int)) (aj:Int) (rG:Int):Nat→(Option aa)→(Int→Option aa)→Int→Option aa
 |0,_,_,_=>none
 |mG+1,kQ,fm,fk=>
  bif (decide (fk<rG)) then
   bif (aM fk (List.length ab)) then
    bif (aj==(List.getD ab (Int.toNat fk) (0:Int))) then
     fm fk
    else
     (pw ab aj rG mG kQ fm) (IntKind.wrap .i64 (fk+(1:Int)))
   else none
  else
   kQ
noncomputable def SH (N:Nat) (a0:(List Int)) (a1:Int) (kf:Int→Option aa):Option aa:=
 pw a0 a1 (List.length a0:Int) N (kf (-1:Int)) kf (0:Int)
noncomputable def S82 (N:Nat) (a0:(List Int)) (a1:Int) (kf:Bool→Option aa):Option aa:=
 SH N a0 a1 (fun Fe=>
  kf (decide (Fe≥(0:Int))))
noncomputable def I19 (N:Nat) (a0:(List QT)) (a1:Int) (a2:Int) (kf:Bool→Option aa):Option aa:=
 NG N a0 a1 (fun dI=>
  bif (decide (dI≥(0:Int))) then
   bif (aM dI (List.length a0)) then
    S82 N (List.getD a0 (Int.toNat dI) ax).2.2.2.2.2 a2 kf
   else none
  else
   kf false)
noncomputable def I77 (N:Nat) (a0:(List QT)) (a1:Int) (a2:Int) (kf:Bool→Option aa):Option aa:=
 NG N a0 a1 (fun cJ=>
  NG N a0 a2 (fun cr=>
   AF N a0 (fun qC=>
    bif qC then
     bif (decide (cJ≥(0:Int))) then
      bif (decide (cr≥(0:Int))) then
       bif (cJ != cr) then
        bif (aM cJ (List.length a0)) then
         bif (aM cr (List.length a0)) then
          bif ((List.getD a0 (Int.toNat cJ) ax).2.1 != (List.getD a0 (Int.toNat cr) ax).2.1) then
           I19 N a0 a1 a2 (fun aeA=>
            kf (!aeA))
          else
           kf false
         else none
        else none
       else
        kf false
      else
       kf false
     else
      kf false
    else
     kf false)))
noncomputable def py (N:Nat) (Ia:(List Int)) (iY:(List QT)) (aeB:Int):Nat→(Option aa)→(Bool→Option aa)→Int→Option aa
 |0,_,_,_=>none
 |aBm+1,n7,n9,Ji=>
  bif (decide (Ji<aeB)) then
   bif (aM Ji (List.length iY)) then
    I78 N Ia (List.getD iY (Int.toNat Ji) ax).1 (fun SI=>
     bif (SI != (1:Int)) then
      n9 false
     else
      (py N Ia iY aeB aBm n7 n9) (IntKind.wrap .i64 (Ji+(1:Int))))
   else none
  else
   n7
noncomputable def uS (N:Nat) (ab:(List QT)) (eS:(List a8)) (bV:Int):Nat→((List Int)→Option aa)→(Bool→Option aa)→(List Int)→Int→Option aa
 |0,_,_,_,_=>none
 |RC+1,cU,fo,fV,jA=>
  bif (decide (jA<bV)) then
   bif (aM jA (List.length eS)) then
    I77 N ab (List.getD eS (Int.toNat jA) cC).1 (List.getD eS (Int.toNat jA) cC).2 (fun kE=>
     bif (!kE) then
      fo false
     else
      bif (decide ((List.length fV+List.length [(List.getD eS (Int.toNat jA) cC).1,(List.getD eS (Int.toNat jA) cC).2])*1≤4398046511104)) then
       (uS N ab eS bV RC cU fo) (fV++[(List.getD eS (Int.toNat jA) cC).1,(List.getD eS (Int.toNat jA) cC).2]) (IntKind.wrap .i64 (jA+(1:Int)))
      else none)
   else none
  else
   cU fV
noncomputable def I17 (N:Nat) (a0:(List QT)) (a1:(List a8)) (kf:Bool→Option aa):Option aa:=
 uS N a0 a1 (List.length a1:Int) N (fun azP=>
  py N azP a0 (List.length a0:Int) N (kf true) kf (0:Int)) kf ([]:(List Int)) (0:Int)
noncomputable def I81 (N:Nat) (a0:QJ) (a1:Int) (kf:Bool→Option aa):Option aa:=
 kf (a0.1==a1)
noncomputable def uT (N:Nat) (ab:(List QJ)) (aj:Int) (rG:Int):Nat→(Option aa)→(Int→Option aa)→Int→Option aa
 |0,_,_,_=>none
 |mG+1,dH,eQ,fk=>
  bif (decide (fk<rG)) then
   bif (aM fk (List.length ab)) then
    I81 N (List.getD ab (Int.toNat fk) cg) aj (fun mg=>
     bif mg then
      eQ fk
     else
      (uT N ab aj rG mG dH eQ) (IntKind.wrap .i64 (fk+(1:Int))))
   else none
  else
   dH
noncomputable def S80 (N:Nat) (a0:(List QJ)) (aer:Int) (kf:Int→Option aa):Option aa:=
 uT N a0 aer (List.length a0:Int) N (kf (-1:Int)) kf (0:Int)
noncomputable def uU (N:Nat) (ab:(List QT)) (AG:QJ) (mi:(List Int)) (as1:Int):Nat→(Option aa)→(Bool→Option aa)→Int→Option aa
 |0,_,_,_=>none
 |RC+1,gl,j8,gR=>
  bif (decide (gR<as1)) then
   bif (aM gR (List.length mi)) then
    NG N ab (List.getD mi (Int.toNat gR) (0:Int)) (fun kE=>
     bif (decide (kE<(0:Int))) then
      j8 false
     else
      bif (aM kE (List.length ab)) then
       bif ((List.getD ab (Int.toNat kE) ax).2.1==AG.2.1) then
        j8 false
       else
        S82 N AG.2.2 (List.getD mi (Int.toNat gR) (0:Int)) (fun rJ=>
         bif rJ then
          j8 false
         else
          (uU N ab AG mi as1 RC gl j8) (IntKind.wrap .i64 (gR+(1:Int))))
      else none)
   else none
  else
   gl
noncomputable def I83 (N:Nat) (a0:(List QT)) (a1:QJ) (a2:a8) (kf:Bool→Option aa):Option aa:=
 uU N a0 a1 [a2.1,a2.2] (List.length [a2.1,a2.2]:Int) N (kf true) kf (0:Int)
noncomputable def uV (N:Nat) (AH:(List QT)) (ju:(List QJ)) (jP:(List a8)) (iF:(List Int)) (mj:(List Int)) (as2:Int):Nat→(Option aa)→(Bool→Option aa)→Int→Option aa
 |0,_,_,_=>none
 |n_9+1,sI,j9,tU=>
  bif (decide (tU<as2)) then
   bif (aM tU (List.length mj)) then
    S80 N ju (List.getD mj (Int.toNat tU) (0:Int)) (fun uW=>
     bif (decide (uW<(0:Int))) then
      j9 false
     else
      bif (decide ((0:Int)≤(0:Int))&&decide ((0:Int)≤tU)&&decide (tU≤(List.length iF:Int))) then
       S82 N (List.drop (Int.toNat (0:Int)) (List.take (Int.toNat tU) iF)) (List.getD mj (Int.toNat tU) (0:Int)) (fun SJ=>
        bif SJ then
         j9 false
        else
         bif (aM uW (List.length ju)) then
          bif (aM tU (List.length jP)) then
           I83 N AH (List.getD ju (Int.toNat uW) cg) (List.getD jP (Int.toNat tU) cC) (fun SK=>
            bif (!SK) then
             j9 false
            else
             (uV N AH ju jP iF mj as2 n_9 sI j9) (IntKind.wrap .i64 (tU+(1:Int))))
          else none
         else none)
      else none)
   else none
  else
   sI
noncomputable def I18 (N:Nat) (a0:(List QT)) (a1:(List QJ)) (a2:(List a8)) (a3:(List Int)) (kf:Bool→Option aa):Option aa:=
 I79 N a1 (fun eh=>
  bif (!eh) then
   kf false
  else
   bif ((List.length a3:Int) != (List.length a2:Int)) then
    kf false
   else
    uV N a0 a1 a2 a3 a3 (List.length a3:Int) N (kf true) kf (0:Int))
noncomputable def NL (N:Nat) (a0:QB) (kf:Bool→Option aa):Option aa:=
 eF N a0.1 (1:Int) (99:Int) (fun Ff=>
  bif Ff then
   eF N a0.2.1 (0:Int) (100:Int) (fun au2=>
    bif au2 then
     eF N a0.2.2 (0:Int) (100:Int) (fun Fl=>
      bif Fl then
       kf (a0.2.1 != a0.2.2)
      else
       kf false)
    else
     kf false)
  else
   kf false)
noncomputable def pz (kD:(List QT)) (n5:Int):Nat→(Int→Option aa)→Int→Int→Option aa
 |0,_,_,_=>none
 |RC+1,AI,ao,Xc=>
  bif (decide (Xc<n5)) then
   bif (aM Xc (List.length kD)) then
    (pz kD n5 RC AI) (IntKind.wrap .i64 (ao+(List.getD kD (Int.toNat Xc) ax).2.2.1)) (IntKind.wrap .i64 (Xc+(1:Int)))
   else none
  else
   AI ao
noncomputable def akO (N:Nat) (a0:(List QT)) (kf:Int→Option aa):Option aa:=
 AF N a0 (fun Fe=>
  bif (!Fe) then
   kf (0:Int)
  else
   pz a0 (List.length a0:Int) N kf (0:Int) (0:Int))
noncomputable def rK (N:Nat) (im:QC) (iZ:(List QB)) (aeC:Int):Nat→(Option aa)→(Bool→Option aa)→Int→Option aa
 |0,_,_,_=>none
 |SL+1,pA,lr,mm=>
  bif (decide (mm<aeC)) then
   bif (aM mm (List.length iZ)) then
    bif (!((decide (((List.getD iZ (Int.toNat mm) fu).1:Int)=(0:Int)))&&((decide (((List.getD iZ (Int.toNat mm) fu).2.1:Int)=(0:Int)))&&(decide (((List.getD iZ (Int.toNat mm) fu).2.2:Int)=(0:Int)))))) then
     NL N (List.getD iZ (Int.toNat mm) fu) (fun SM=>
      bif (!SM) then
       lr false
      else
       bif (aM mm (List.length im.2.2.2.1)) then
        bif ((List.getD iZ (Int.toNat mm) fu).1 != (List.getD im.2.2.2.1 (Int.toNat mm) (0:Int))) then
         lr false
        else
         (rK N im iZ aeC SL pA lr) (IntKind.wrap .i64 (mm+(1:Int)))
       else none)
    else
     (rK N im iZ aeC SL pA lr) (IntKind.wrap .i64 (mm+(1:Int)))
   else none
  else
   pA
noncomputable def Jj (N:Nat) (a0:QC) (kf:Bool→Option aa):Option aa:=
 rK N a0 a0.2.2.2.2.1 (List.length a0.2.2.2.2.1:Int) N (
  eF N a0.2.2.2.2.2.2 (0:Int) (1000:Int) (fun au3=>
   bif au3 then
    akO N a0.1 (fun uX=>
     kf (uX==a0.2.2.2.2.2.2))
   else
    kf false)) kf (0:Int)
noncomputable def I39 (N:Nat) (a0:QC) (kf:Bool→Option aa):Option aa:=
 AF N a0.1 (fun Fe=>
  bif (!Fe) then
   kf false
  else
   I79 N a0.2.1 (fun NM=>
    bif (!NM) then
     kf false
    else
     I75 N a0.2.2.2.2.2.1 (fun Fm=>
      bif (!Fm) then
       kf false
      else
       bif ((List.length a0.2.2.2.1:Int) != (List.length a0.2.2.1:Int)) then
        kf false
       else
        bif ((List.length a0.2.2.2.2.1:Int) != (List.length a0.2.2.1:Int)) then
         kf false
        else
         I16 N a0 (fun azQ=>
          bif azQ then
           I17 N a0.1 a0.2.2.1 (fun azR=>
            bif (!azR) then
             kf false
            else
             I18 N a0.1 a0.2.1 a0.2.2.1 a0.2.2.2.1 (fun azS=>
              bif (!azS) then
               kf false
              else
               Jj N a0 kf))
          else
           Jj N a0 kf))))
noncomputable def Jk (N:Nat) (a0:QC) (a1:QC) (a2:Int) (a3:Int) (kf:QC→Bool→Option aa):Option aa:=
 akN N a1.2.2.2.2.2.1 a2 a3 (fun NN oa=>
  bif (!oa) then
   H8 N a0 (fun NO=>
    kf NO false)
  else
   I39 N a0 (fun aD=>
    bif (!aD) then
     H8 N a0 (fun NO=>
      kf NO false)
    else
     I39 N (a1.1,(a1.2.1,(a1.2.2.1,(a1.2.2.2.1,(a1.2.2.2.2.1,(NN,a1.2.2.2.2.2.2)))))) (fun azT=>
      bif (!azT) then
       H8 N a0 (fun NP=>
        kf NP false)
      else
       kf (a1.1,(a1.2.1,(a1.2.2.1,(a1.2.2.2.1,(a1.2.2.2.2.1,(NN,a1.2.2.2.2.2.2)))))) true)))
noncomputable def rL (aaC:Int) (akP:Int) (akQ:QC) (akR:QC) (xz:QC):Nat→(Int→Option aa)→Int→Option aa
 |0,_,_=>none
 |aaD+1,mU,aaE=>
  bif (decide (aaE<(List.length xz.1:Int))) then
   bif (aM aaE (List.length xz.1)) then
    bif (decide ((List.getD xz.1 (Int.toNat aaE) ax).1<aaC)) then
     (rL aaC akP akQ akR xz aaD mU) (IntKind.wrap .i64 (aaE+(1:Int)))
    else
     mU aaE
   else none
  else
   mU aaE
noncomputable def I30 (N:Nat) (a0:QC) (a1:Int) (a2:Int) (kf:QC→Bool→Option aa):Option aa:=
 H8 N a0 (fun cJ=>
  NG N a0.1 a1 (fun Fo=>
   bif (decide (Fo≥(0:Int))) then
    kf cJ false
   else
    I16 N a0 (fun NQ=>
     bif NQ then
      kf cJ false
     else
      rL a1 a2 a0 (([]:(List QT)),(([]:(List QJ)),(([]:(List a8)),(([]:(List Int)),(([]:(List QB)),(([]:(List QL)),(0:Int))))))) cJ N (fun azU=>
       akJ N cJ.1 azU [(a1,(a2,((0:Int),((0:Int),((0:Int),([]:(List Int)))))))] (fun au4=>
        Jk N a0 (au4,cJ.2) (1:Int) a1 kf)) (0:Int))))
noncomputable def akS (N:Nat) (a0:QJ) (a1:Int) (kf:Bool→Option aa):Option aa:=
 kf (a0.1==a1)
noncomputable def pB (N:Nat) (ab:(List QJ)) (aj:Int) (rG:Int):Nat→(Option aa)→(Int→Option aa)→Int→Option aa
 |0,_,_,_=>none
 |mG+1,dH,eQ,fk=>
  bif (decide (fk<rG)) then
   bif (aM fk (List.length ab)) then
    akS N (List.getD ab (Int.toNat fk) cg) aj (fun mg=>
     bif mg then
      eQ fk
     else
      (pB N ab aj rG mG dH eQ) (IntKind.wrap .i64 (fk+(1:Int))))
   else none
  else
   dH
noncomputable def au5 (N:Nat) (a0:(List QJ)) (aer:Int) (kf:Int→Option aa):Option aa:=
 pB N a0 aer (List.length a0:Int) N (kf (-1:Int)) kf (0:Int)
noncomputable def SN (N:Nat) (a0:(List QJ)) (a1:Int) (kf:Int→Option aa):Option aa:=
 au5 N a0 a1 kf
noncomputable def akT (N:Nat) (a0:(List QJ)) (a1:Int) (a2:(List QJ)) (kf:(List QJ)→Option aa):Option aa:=
 bif (decide ((0:Int)≤a1)&&(decide (a1≤(List.length a0:Int))&&(Nat.blt 0 (List.length a2)&&Nat.ble ((List.length a0+List.length a2)*Ty.size bY) 4398046511104))) then
  kf (List.take (Int.toNat a1) a0++a2++List.drop (Int.toNat a1) a0)
 else none
noncomputable def rM (ju:Int) (jP:Int) (iF:QC) (akU:QC) (xA:QC):Nat→(Int→Option aa)→Int→Option aa
 |0,_,_=>none
 |n_9+1,eJ,aaF=>
  bif (decide (aaF<(List.length xA.2.1:Int))) then
   bif (aM aaF (List.length xA.2.1)) then
    bif (decide ((List.getD xA.2.1 (Int.toNat aaF) cg).1<ju)) then
     (rM ju jP iF akU xA n_9 eJ) (IntKind.wrap .i64 (aaF+(1:Int)))
    else
     eJ aaF
   else none
  else
   eJ aaF
noncomputable def I32 (N:Nat) (a0:QC) (a1:Int) (a2:Int) (kf:QC→Bool→Option aa):Option aa:=
 H8 N a0 (fun cJ=>
  SN N a0.2.1 a1 (fun Fo=>
   bif (decide (Fo≥(0:Int))) then
    kf cJ false
   else
    rM a1 a2 a0 (([]:(List QT)),(([]:(List QJ)),(([]:(List a8)),(([]:(List Int)),(([]:(List QB)),(([]:(List QL)),(0:Int))))))) cJ N (fun azV=>
     akT N cJ.2.1 azV [(a1,(a2,([]:(List Int))))] (fun au6=>
      Jk N a0 (cJ.1,(au6,cJ.2.2)) (2:Int) a1 kf)) (0:Int)))
noncomputable def akV (N:Nat) (a0:(List QT)) (kf:(List QT)→Option aa):Option aa:=
 bif (List.isEmpty a0) then
  both (kf ([]:(List QT))) (
   bif (decide ((List.length ([]:(List QT))+List.length a0)*6≤4398046511104)) then
    kf (([]:(List QT))++a0)
   else none)
 else
  bif (decide ((List.length ([]:(List QT))+List.length a0)*6≤4398046511104)) then
   kf (([]:(List QT))++a0)
  else none
noncomputable def Jl (kf:Int→Option aa) (azW:Int) (aBn:Int):Option aa:=
 bif (aM (IntKind.wrap .u8 azW) (ByteArray.size aR)) then
  kf (IntKind.wrap .i64 (aBn+(IntKind.wrap .i64 (bt aR (IntKind.wrap .u8 azW)))))
 else none
noncomputable def Jm (kf:Int→Option aa) (au7:Int) (azX:Int):Option aa:=
 bif (decide (au7≥(256:Int))) then
  bif (decide (0≤(8:Int))) then
   Jl kf (Int.fdiv au7 (2^(min (Int.toNat (8:Int)) (IntKind.bits .u64)))) (IntKind.wrap .i64 (azX+(8:Int)))
  else none
 else
  Jl kf au7 azX
noncomputable def Jn (kf:Int→Option aa) (au8:Int) (azY:Int):Option aa:=
 bif (decide (au8≥(65536:Int))) then
  bif (decide (0≤(16:Int))) then
   Jm kf (Int.fdiv au8 (2^(min (Int.toNat (16:Int)) (IntKind.bits .u64)))) (IntKind.wrap .i64 (azY+(16:Int)))
  else none
 else
  Jm kf au8 azY
noncomputable def au9 (N:Nat) (a0:Int) (kf:Int→Option aa):Option aa:=
 bif (decide (a0≥(4294967296:Int))) then
  bif (decide (0≤(32:Int))) then
   Jn kf (Int.fdiv a0 (2^(min (Int.toNat (32:Int)) (IntKind.bits .u64)))) (32:Int)
  else none
 else
  Jn kf a0 (0:Int)
noncomputable def akW (N:Nat) (a0:Int) (kf:Int→Option aa):Option aa:=
 au9 N a0 kf
noncomputable def akX (N:Nat) (a0:Int) (kf:Bool→Option aa):Option aa:=
 kf (a0 != a0)
noncomputable def aaG (N:Nat) (a0:Int) (a1:Int) (kf:Int→Option aa):Option aa:=
 akX N a0 (fun ph=>
  akX N a1 (fun Xd=>
   bif ph then
    bif Xd then
     kf (0:Int)
    else
     kf (-1:Int)
   else
    bif Xd then
     kf (1:Int)
    else
     bif (decide (a0<a1)) then
      kf (-1:Int)
     else
      bif (decide (a0>a1)) then
       kf (1:Int)
      else
       kf (0:Int)))
noncomputable def pC (bG:Int) (iE:(List Int)) (rG:Int):Nat→(Option aa)→(Int→Option aa)→Int→Option aa
 |0,_,_,_=>none
 |mG+1,a6,AJ,fk=>
  bif (decide (fk<rG)) then
   bif (aM fk (List.length iE)) then
    bif ((List.getD iE (Int.toNat fk) (0:Int)) != bG) then
     AJ (List.getD iE (Int.toNat fk) (0:Int))
    else
     (pC bG iE rG mG a6 AJ) (IntKind.wrap .i64 (fk+(1:Int)))
   else none
  else
   a6
noncomputable def akY (N:Nat) (a0:(List Int)) (kf:Int→Option aa):Option aa:=
 pC (0:Int) a0 (List.length a0:Int) N (kf (0:Int)) kf (0:Int)
noncomputable def akZ (N:Nat) (a0:QT) (a1:QT) (kf:Int→Option aa):Option aa:=
 aaG N a1.2.2.1 a0.2.2.1 (fun jv=>
  aaG N a1.2.2.2.1 a0.2.2.2.1 (fun cr=>
   aaG N a0.1 a1.1 (fun NQ=>
    akY N [jv,cr,NQ] kf)))
noncomputable def sJ (N:Nat) (im:Int) (aaH:Int) (aBo:Int):Nat→((List QT)→Option aa)→(List QT)→Int→Option aa
 |0,_,_,_=>none
 |SL+1,Jo,eI,mV=>
  bif (decide (mV>im)) then
   bif (aM mV (List.length eI)) then
    bif (aM (IntKind.wrap .i64 (mV - (1:Int))) (List.length eI)) then
     akZ N (List.getD eI (Int.toNat mV) ax) (List.getD eI (Int.toNat (IntKind.wrap .i64 (mV - (1:Int)))) ax) (fun au'=>
      bif (decide (au'<(0:Int))) then
       bif (aM (IntKind.wrap .i64 (mV - (1:Int))) (List.length eI)) then
        bif (aM mV (List.length eI)) then
         bif (aM mV (List.length eI)) then
          share (List.set eI (Int.toNat mV) (List.getD eI (Int.toNat (IntKind.wrap .i64 (mV - (1:Int)))) ax)) (fun as3=>
           bif (aM (IntKind.wrap .i64 (mV - (1:Int))) (List.length as3)) then
            share (List.set as3 (Int.toNat (IntKind.wrap .i64 (mV - (1:Int)))) (List.getD eI (Int.toNat mV) ax)) (fun azZ=>
             (sJ N im aaH aBo SL Jo) azZ (IntKind.wrap .i64 (mV - (1:Int))))
           else none)
         else none
        else none
       else none
      else
       Jo eI)
    else none
   else none
  else
   Jo eI
noncomputable def pD (N:Nat) (aj:Int) (fA:Int):Nat→((List QT)→Option aa)→(List QT)→Int→Option aa
 |0,_,_,_=>none
 |mG+1,Xe,ab,fk=>
  bif (decide (fk<fA)) then
   sJ N aj fA fk N (fun az0=>
    (pD N aj fA mG Xe) az0 (IntKind.wrap .i64 (fk+(1:Int)))) ab fk
  else
   Xe ab
noncomputable def ava (N:Nat) (a0:(List QT)) (a1:Int) (a2:Int) (kf:(List QT)→Option aa):Option aa:=
 pD N a1 a2 N kf a0 (IntKind.wrap .i64 (a1+(1:Int)))
noncomputable def Jp (N:Nat) (ab:(List QT)) (aj:Int) (fA:Int) (cK:Int) (gA:Bool) (aBP:Bool):Nat→((List QT)→Option aa)→Option aa
 |0,_=>none
 |n_7+1,gl=>
  bif (decide ((IntKind.wrap .i64 (fA - aj))≤(12:Int))) then
   ava N ab aj fA gl
  else
   bif (cK==(0:Int)) then
    none
   else
    bif (!gA) then
     none
    else none
noncomputable def ak0 (N:Nat) (a0:(List QT)) (a1:Int) (a2:Int) (a3:Int) (kf:(List QT)→Option aa):Option aa:=
 Jp N a0 a1 a2 a3 true true N kf
noncomputable def ak1 (N:Nat) (a0:(List QT)) (kf:(List QT)→Option aa):Option aa:=
 akW N (IntKind.wrap .u64 (List.length a0:Int)) (fun cJ=>
  ak0 N a0 (0:Int) (List.length a0:Int) cJ kf)
noncomputable def pE (gR:(List QT)) (as4:Int):Nat→((List Int)→Option aa)→(List Int)→Int→Option aa
 |0,_,_,_=>none
 |n_8+1,AL,cK,NR=>
  bif (decide (NR<as4)) then
   bif (aM NR (List.length gR)) then
    bif (decide ((List.length cK+List.length [(List.getD gR (Int.toNat NR) ax).1])*1≤4398046511104)) then
     (pE gR as4 n_8 AL) (cK++[(List.getD gR (Int.toNat NR) ax).1]) (IntKind.wrap .i64 (NR+(1:Int)))
    else none
   else none
  else
   AL cK
noncomputable def aeD (N:Nat) (a0:(List QT)) (kf:(List Int)→Option aa):Option aa:=
 AF N a0 (fun jv=>
  bif (!jv) then
   kf ([]:(List Int))
  else
   akV N a0 (fun fR=>
    ak1 N fR (fun az1=>
     pE az1 (List.length az1:Int) N kf ([]:(List Int)) (0:Int))))
noncomputable def avb (N:Nat) (a0:(List Int)) (a1:Int) (kf:(List Int)→Option aa):Option aa:=
 bif (List.isEmpty a0&&(decide ((0:Int)≤a1)&&decide (a1≤(549755813888:Int)))) then
  kf ([]:List Int)
 else none
noncomputable def kF (iq:(List (List Int))) (aeE:Int):Nat→((List Int)→Option aa)→(List Int)→Int→Option aa
 |0,_,_,_=>none
 |aBp+1,ob,k8,Fp=>
  bif (decide (Fp<aeE)) then
   bif (aM Fp (List.length iq)) then
    bif (decide ((List.length k8+List.length (List.getD iq (Int.toNat Fp) ([]:(List Int))))*1≤4398046511104)) then
     (kF iq aeE aBp ob) (k8++(List.getD iq (Int.toNat Fp) ([]:(List Int)))) (IntKind.wrap .i64 (Fp+(1:Int)))
    else none
   else none
  else
   ob k8
noncomputable def pF (ab:(List (List Int))) (mn:(List (List Int))) (c8:Int):Nat→(Int→Option aa)→Int→Int→Option aa
 |0,_,_,_=>none
 |RC+1,bJ,ao,CJ=>
  bif (decide (CJ<c8)) then
   bif (aM CJ (List.length mn)) then
    bif (decide ((IntKind.wrap .i64 (ao+(List.length (List.getD mn (Int.toNat CJ) ([]:(List Int))):Int)))<(0:Int))) then
     none
    else
     (pF ab mn c8 RC bJ) (IntKind.wrap .i64 (ao+(List.length (List.getD mn (Int.toNat CJ) ([]:(List Int))):Int))) (IntKind.wrap .i64 (CJ+(1:Int)))
   else none
  else
   bJ ao
noncomputable def ak2 (N:Nat) (a0:(List (List Int))) (kf:(List Int)→Option aa):Option aa:=
 pF a0 a0 (List.length a0:Int) N (fun aBq=>
  avb N ([]:(List Int)) aBq (fun avc=>
   kF a0 (List.length a0:Int) N kf avc (0:Int))) (0:Int) (0:Int)
noncomputable def ak3 (N:Nat) (a0:(List QT)) (a1:Int) (a2:Int) (kf:a8→Option aa):Option aa:=
 NG N a0 a1 (fun NS=>
  NG N a0 a2 (fun NT=>
   AF N a0 (fun NQ=>
    bif (!NQ) then
     kf ((0:Int),(0:Int))
    else
     bif (decide (NS<(0:Int))) then
      kf ((0:Int),(0:Int))
     else
      bif (decide (NT<(0:Int))) then
       kf ((0:Int),(0:Int))
      else
       bif (NS==NT) then
        kf ((0:Int),(0:Int))
       else
        bif (aM NS (List.length a0)) then
         bif (aM NT (List.length a0)) then
          aeD N a0 (fun as5=>
           bif (decide ((List.getD a0 (Int.toNat NS) ax).2.2.2.2.1<(List.getD a0 (Int.toNat NT) ax).2.2.2.2.1)) then
            kf (a1,a2)
           else
            bif ((List.getD a0 (Int.toNat NS) ax).2.2.2.2.1==(List.getD a0 (Int.toNat NT) ax).2.2.2.2.1) then
             SH N as5 a1 (fun az2=>
              SH N as5 a2 (fun az3=>
               bif (decide (az2<az3)) then
                kf (a1,a2)
               else
                kf (a2,a1)))
            else
             kf (a2,a1))
         else none
        else none)))
noncomputable def pG (N:Nat) (self:(List QT)→(List Int)→((List a8)→Bool→Option aa)→Option aa) (ab:(List QT)) (aj:(List Int)):Nat→(Option aa)→((List a8)→Bool→Option aa)→Int→Option aa
 |0,_,_,_=>none
 |eT+1,Jq,Jr,iG=>
  bif (decide (iG<(List.length aj:Int))) then
   bif (aM (0:Int) (List.length aj)) then
    bif (aM iG (List.length aj)) then
     I77 N ab (List.getD aj (Int.toNat (0:Int)) (0:Int)) (List.getD aj (Int.toNat iG) (0:Int)) (fun az4=>
      bif (!az4) then
       (pG N self ab aj eT Jq Jr) (IntKind.wrap .i64 (iG+(1:Int)))
      else
       bif (decide ((0:Int)≤(1:Int))&&decide ((1:Int)≤iG)&&decide (iG≤(List.length aj:Int))) then
        bif (decide ((0:Int)≤(IntKind.wrap .i64 (iG+(1:Int))))&&decide ((IntKind.wrap .i64 (iG+(1:Int)))≤(List.length aj:Int))&&decide ((List.length aj:Int)≤(List.length aj:Int))) then
         ak2 N [(List.drop (Int.toNat (1:Int)) (List.take (Int.toNat iG) aj)),(List.drop (Int.toNat (IntKind.wrap .i64 (iG+(1:Int)))) (List.take (Int.toNat (List.length aj:Int)) aj))] (fun aeF=>
          self ab aeF (fun as6 az5=>
           bif az5 then
            bif (aM (0:Int) (List.length aj)) then
             bif (aM iG (List.length aj)) then
              ak3 N ab (List.getD aj (Int.toNat (0:Int)) (0:Int)) (List.getD aj (Int.toNat iG) (0:Int)) (fun as7=>
               bif (decide ((List.length [as7]+List.length as6)*2≤4398046511104)) then
                Jr ([as7]++as6) true
               else none)
             else none
            else none
           else
            (pG N self ab aj eT Jq Jr) (IntKind.wrap .i64 (iG+(1:Int)))))
        else none
       else none)
    else none
   else none
  else
   Jq
noncomputable def SO (self:(List QT)→(List Int)→((List a8)→Bool→Option aa)→Option aa) (N:Nat) (a0:(List QT)) (a1:(List Int)) (kf:(List a8)→Bool→Option aa):Option aa:=
 bif ((List.length a1:Int)==(0:Int)) then
  kf ([]:(List a8)) true
 else
  pG N self a0 a1 N (kf ([]:(List a8)) false) kf (1:Int)
noncomputable def SP:Nat→(List QT)→(List Int)→((List a8)→Bool→Option aa)→Option aa
 |0,_,_,_=>none
 |N+1,a0,a1,kf=>SO (SP N) N a0 a1 kf
noncomputable def ak4 (N:Nat) (a0:(List QT)) (kf:(List a8)→Bool→Option aa):Option aa:=
 AF N a0 (fun Ff=>
  bif (!Ff) then
   kf ([]:(List a8)) false
  else
   bif ((Int.tmod (List.length a0:Int) (2:Int))==(1:Int)) then
    kf ([]:(List a8)) false
   else
    aeD N a0 (fun oa=>
     SP N a0 oa kf))
noncomputable def mW (N:Nat) (self:(List QT)→(List QJ)→(List a8)→(List Int)→((List Int)→Bool→Option aa)→Option aa) (ab:(List QT)) (aj:(List QJ)) (fA:(List a8)) (cK:(List Int)) (tV:(List QJ)) (Xf:Int):Nat→(Option aa)→((List Int)→Bool→Option aa)→Int→Option aa
 |0,_,_,_=>none
 |n_8+1,DG,DH,rO=>
  bif (decide (rO<Xf)) then
   bif (aM rO (List.length tV)) then
    S82 N cK (List.getD tV (Int.toNat rO) cg).1 (fun az6=>
     bif az6 then
      (mW N self ab aj fA cK tV Xf n_8 DG DH) (IntKind.wrap .i64 (rO+(1:Int)))
     else
      bif (aM (0:Int) (List.length fA)) then
       I83 N ab (List.getD tV (Int.toNat rO) cg) (List.getD fA (Int.toNat (0:Int)) cC) (fun avd=>
        bif (!avd) then
         (mW N self ab aj fA cK tV Xf n_8 DG DH) (IntKind.wrap .i64 (rO+(1:Int)))
        else
         bif (decide ((0:Int)≤(1:Int))&&decide ((1:Int)≤(List.length fA:Int))&&decide ((List.length fA:Int)≤(List.length fA:Int))) then
          Jc N cK (fun Js=>
           bif (decide ((List.length Js+List.length [(List.getD tV (Int.toNat rO) cg).1])*1≤4398046511104)) then
            self ab aj (List.drop (Int.toNat (1:Int)) (List.take (Int.toNat (List.length fA:Int)) fA)) (Js++[(List.getD tV (Int.toNat rO) cg).1]) (fun aeG SQ=>
             bif SQ then
              bif (decide ((List.length [(List.getD tV (Int.toNat rO) cg).1]+List.length aeG)*1≤4398046511104)) then
               DH ([(List.getD tV (Int.toNat rO) cg).1]++aeG) true
              else none
             else
              (mW N self ab aj fA cK tV Xf n_8 DG DH) (IntKind.wrap .i64 (rO+(1:Int))))
           else none)
         else none)
      else none)
   else none
  else
   DG
noncomputable def SR (self:(List QT)→(List QJ)→(List a8)→(List Int)→((List Int)→Bool→Option aa)→Option aa) (N:Nat) (a0:(List QT)) (a1:(List QJ)) (a2:(List a8)) (a3:(List Int)) (kf:(List Int)→Bool→Option aa):Option aa:=
 bif ((List.length a2:Int)==(0:Int)) then
  kf ([]:(List Int)) true
 else
  mW N self a0 a1 a2 a3 a1 (List.length a1:Int) N (kf ([]:(List Int)) false) kf (0:Int)
noncomputable def SS:Nat→(List QT)→(List QJ)→(List a8)→(List Int)→((List Int)→Bool→Option aa)→Option aa
 |0,_,_,_,_,_=>none
 |N+1,a0,a1,a2,a3,kf=>SR (SS N) N a0 a1 a2 a3 kf
noncomputable def ak5 (N:Nat) (a0:(List QT)) (a1:(List QJ)) (a2:(List a8)) (kf:(List Int)→Bool→Option aa):Option aa:=
 I79 N a1 (fun jv=>
  bif (!jv) then
   kf ([]:(List Int)) false
  else
   AF N a0 (fun fR=>
    bif (!fR) then
     kf ([]:(List Int)) false
    else
     bif (decide ((List.length a2:Int)>(List.length a1:Int))) then
      kf ([]:(List Int)) false
     else
      SS N a0 a1 a2 ([]:(List Int)) kf))
noncomputable def I23 (N:Nat) (a0:QC) (kf:QC→Bool→Option aa):Option aa:=
 H8 N a0 (fun dI=>
  I39 N a0 (fun NM=>
   bif (!NM) then
    kf dI false
   else
    I16 N a0 (fun qC=>
     bif qC then
      kf dI false
     else
      bif ((List.length a0.1:Int)==(0:Int)) then
       kf dI false
      else
       ak4 N a0.1 (fun Fq Fs=>
        ak5 N a0.1 a0.2.1 Fq (fun az7 az8=>
         bif (!Fs) then
          kf dI false
         else
          bif (!az8) then
           kf dI false
          else
           bif (decide ((List.length Fq:Int)=(List.length Fq:Int))&&decide ((0:Int)≤(List.length Fq:Int))&&decide ((List.length Fq:Int)≤1099511627776)) then
            Jk N a0 (dI.1,(dI.2.1,(Fq,(az7,((List.replicate (Int.toNat (List.length Fq:Int)) ((0:Int),((0:Int),(0:Int)))),dI.2.2.2.2.2))))) (3:Int) (0:Int) kf
           else none)))))
noncomputable def I35 (N:Nat) (a0:QC) (a1:Int) (a2:Int) (a3:Int) (kf:QC→Bool→Option aa):Option aa:=
 H8 N a0 (fun eh=>
  I39 N a0 (fun Fo=>
   bif (!Fo) then
    kf eh false
   else
    bif (decide (a1<(0:Int))) then
     kf eh false
    else
     bif (decide (a1≥(List.length a0.2.2.1:Int))) then
      kf eh false
     else
      bif (aM a1 (List.length a0.2.2.2.2.1)) then
       bif (!((decide (((List.getD a0.2.2.2.2.1 (Int.toNat a1) fu).1:Int)=(0:Int)))&&((decide (((List.getD a0.2.2.2.2.1 (Int.toNat a1) fu).2.1:Int)=(0:Int)))&&(decide (((List.getD a0.2.2.2.2.1 (Int.toNat a1) fu).2.2:Int)=(0:Int)))))) then
        kf eh false
       else
        bif (aM a1 (List.length a0.2.2.2.1)) then
         NL N ((List.getD a0.2.2.2.1 (Int.toNat a1) (0:Int)),(a2,a3)) (fun az9=>
          bif (!az9) then
           kf eh false
          else
           bif (aM a1 (List.length eh.2.2.2.2.1)) then
            Jk N a0 (eh.1,(eh.2.1,(eh.2.2.1,(eh.2.2.2.1,((List.set eh.2.2.2.2.1 (Int.toNat a1) ((List.getD a0.2.2.2.1 (Int.toNat a1) (0:Int)),(a2,a3))),eh.2.2.2.2.2))))) (4:Int) (List.getD a0.2.2.2.1 (Int.toNat a1) (0:Int)) kf
           else none)
        else none
      else none))
noncomputable def rP (gw:(List QB)) (mn:Int):Nat→((List Int)→Option aa)→(List Int)→Int→Option aa
 |0,_,_,_=>none
 |mG+1,bJ,bG,c8=>
  bif (decide (c8<mn)) then
   bif (aM c8 (List.length gw)) then
    bif ((decide (((List.getD gw (Int.toNat c8) fu).1:Int)=(0:Int)))&&((decide (((List.getD gw (Int.toNat c8) fu).2.1:Int)=(0:Int)))&&(decide (((List.getD gw (Int.toNat c8) fu).2.2:Int)=(0:Int))))) then
     bif (decide ((List.length bG+List.length [c8])*1≤4398046511104)) then
      (rP gw mn mG bJ) (bG++[c8]) (IntKind.wrap .i64 (c8+(1:Int)))
     else none
    else
     (rP gw mn mG bJ) bG (IntKind.wrap .i64 (c8+(1:Int)))
   else none
  else
   bJ bG
noncomputable def I41 (N:Nat) (a0:QC) (kf:(List Int)→Option aa):Option aa:=
 rP a0.2.2.2.2.1 (List.length a0.2.2.2.2.1:Int) N kf ([]:(List Int)) (0:Int)
noncomputable def mX (N:Nat) (ab:(List QB)) (gw:(List QB)) (mn:Int):Nat→(Option aa)→(Bool→Option aa)→Int→Option aa
 |0,_,_,_=>none
 |mG+1,ir,pH,c8=>
  bif (decide (c8<mn)) then
   bif (aM c8 (List.length gw)) then
    NL N (List.getD gw (Int.toNat c8) fu) (fun mg=>
     bif (!mg) then
      pH false
     else
      bif (decide (c8>(0:Int))) then
       bif (aM (IntKind.wrap .i64 (c8 - (1:Int))) (List.length ab)) then
        bif (decide ((List.getD gw (Int.toNat c8) fu).1≤(List.getD ab (Int.toNat (IntKind.wrap .i64 (c8 - (1:Int)))) fu).1)) then
         pH false
        else
         (mX N ab gw mn mG ir pH) (IntKind.wrap .i64 (c8+(1:Int)))
       else none
      else
       (mX N ab gw mn mG ir pH) (IntKind.wrap .i64 (c8+(1:Int))))
   else none
  else
   ir
noncomputable def aaI (N:Nat) (a0:(List QB)) (kf:Bool→Option aa):Option aa:=
 bif (decide ((List.length a0:Int)>(9:Int))) then
  kf false
 else
  mX N a0 a0 (List.length a0:Int) N (kf true) kf (0:Int)
noncomputable def aaJ (N:Nat) (a0:QB) (kf:Int→Option aa):Option aa:=
 bif (decide (a0.2.1>a0.2.2)) then
  kf (1:Int)
 else
  kf (2:Int)
noncomputable def mY (N:Nat) (aj:Int) (bV:(List QB)) (jA:Int):Nat→(Int→Option aa)→Int→Int→Option aa
 |0,_,_,_=>none
 |n_7+1,eJ,ak,oc=>
  bif (decide (oc<jA)) then
   bif (aM oc (List.length bV)) then
    aaJ N (List.getD bV (Int.toNat oc) fu) (fun Ft=>
     bif (Ft==aj) then
      (mY N aj bV jA n_7 eJ) (IntKind.wrap .i64 (ak+(1:Int))) (IntKind.wrap .i64 (oc+(1:Int)))
     else
      (mY N aj bV jA n_7 eJ) ak (IntKind.wrap .i64 (oc+(1:Int))))
   else none
  else
   eJ ak
noncomputable def aeH (N:Nat) (a0:(List QB)) (a1:Int) (kf:Int→Option aa):Option aa:=
 aaI N a0 (fun jv=>
  bif (!jv) then
   kf (0:Int)
  else
   mY N a1 a0 (List.length a0:Int) N kf (0:Int) (0:Int))
noncomputable def lu (aj:Int) (bV:(List QB)) (jA:Int):Nat→(Int→Option aa)→Int→Int→Option aa
 |0,_,_,_=>none
 |n_7+1,il,ak,oc=>
  bif (decide (oc<jA)) then
   bif (aM oc (List.length bV)) then
    bif (aj==(1:Int)) then
     (lu aj bV jA n_7 il) (IntKind.wrap .i64 (ak+(List.getD bV (Int.toNat oc) fu).2.1)) (IntKind.wrap .i64 (oc+(1:Int)))
    else
     bif (aj==(2:Int)) then
      (lu aj bV jA n_7 il) (IntKind.wrap .i64 (ak+(List.getD bV (Int.toNat oc) fu).2.2)) (IntKind.wrap .i64 (oc+(1:Int)))
     else
      (lu aj bV jA n_7 il) ak (IntKind.wrap .i64 (oc+(1:Int)))
   else none
  else
   il ak
noncomputable def SU (N:Nat) (a0:(List QB)) (a1:Int) (kf:Int→Option aa):Option aa:=
 aaI N a0 (fun jv=>
  bif (!jv) then
   kf (0:Int)
  else
   lu a1 a0 (List.length a0:Int) N kf (0:Int) (0:Int))
noncomputable def Xg (N:Nat) (a0:(List QB)) (kf:Int→Option aa):Option aa:=
 bif (aM (0:Int) (List.length a0)) then
  aaJ N (List.getD a0 (Int.toNat (0:Int)) fu) kf
 else none
noncomputable def aaK (N:Nat) (a0:(List QB)) (kf:Int→Option aa):Option aa:=
 bif ((List.length a0:Int)==(0:Int)) then
  kf (0:Int)
 else
  aaI N a0 (fun dI=>
   bif (!dI) then
    kf (0:Int)
   else
    aeH N a0 (1:Int) (fun cr=>
     aeH N a0 (2:Int) (fun qC=>
      SU N a0 (1:Int) (fun Fu=>
       SU N a0 (2:Int) (fun aeI=>
        bif (decide ((IntKind.wrap .i64 (cr - qC))>(0:Int))) then
         kf (1:Int)
        else
         bif ((IntKind.wrap .i64 (cr - qC))==(0:Int)) then
          bif (decide ((IntKind.wrap .i64 (Fu - aeI))>(0:Int))) then
           kf (1:Int)
          else
           bif (decide ((IntKind.wrap .i64 (cr - qC))<(0:Int))) then
            kf (2:Int)
           else
            bif (decide ((IntKind.wrap .i64 (Fu - aeI))<(0:Int))) then
             kf (2:Int)
            else
             Xg N a0 kf
         else
          bif (decide ((IntKind.wrap .i64 (cr - qC))<(0:Int))) then
           kf (2:Int)
          else
           bif (decide ((IntKind.wrap .i64 (Fu - aeI))<(0:Int))) then
            kf (2:Int)
           else
            Xg N a0 kf)))))
noncomputable def Jt (N:Nat) (a0:(List QT)) (a4:Int) (a5:Int) (kf:(List QT)→Bool→Option aa) (ae:Int) (aD:Int) (bz:(List QT)):Option aa:=
 bif (aM ae (List.length bz)) then
  bif (aM ae (List.length bz)) then
   bif (aM aD (List.length (List.set bz (Int.toNat ae) ((List.getD bz (Int.toNat ae) ax).1,((List.getD bz (Int.toNat ae) ax).2.1,((List.getD bz (Int.toNat ae) ax).2.2.1,((IntKind.wrap .i64 ((List.getD bz (Int.toNat ae) ax).2.2.2.1+a4)),(List.getD bz (Int.toNat ae) ax).2.2.2.2))))))) then
    bif (aM aD (List.length (List.set bz (Int.toNat ae) ((List.getD bz (Int.toNat ae) ax).1,((List.getD bz (Int.toNat ae) ax).2.1,((List.getD bz (Int.toNat ae) ax).2.2.1,((IntKind.wrap .i64 ((List.getD bz (Int.toNat ae) ax).2.2.2.1+a4)),(List.getD bz (Int.toNat ae) ax).2.2.2.2))))))) then
     share (List.set (List.set bz (Int.toNat ae) ((List.getD bz (Int.toNat ae) ax).1,((List.getD bz (Int.toNat ae) ax).2.1,((List.getD bz (Int.toNat ae) ax).2.2.1,((IntKind.wrap .i64 ((List.getD bz (Int.toNat ae) ax).2.2.2.1+a4)),(List.getD bz (Int.toNat ae) ax).2.2.2.2))))) (Int.toNat aD) ((List.getD (List.set bz (Int.toNat ae) ((List.getD bz (Int.toNat ae) ax).1,((List.getD bz (Int.toNat ae) ax).2.1,((List.getD bz (Int.toNat ae) ax).2.2.1,((IntKind.wrap .i64 ((List.getD bz (Int.toNat ae) ax).2.2.2.1+a4)),(List.getD bz (Int.toNat ae) ax).2.2.2.2))))) (Int.toNat aD) ax).1,((List.getD (List.set bz (Int.toNat ae) ((List.getD bz (Int.toNat ae) ax).1,((List.getD bz (Int.toNat ae) ax).2.1,((List.getD bz (Int.toNat ae) ax).2.2.1,((IntKind.wrap .i64 ((List.getD bz (Int.toNat ae) ax).2.2.2.1+a4)),(List.getD bz (Int.toNat ae) ax).2.2.2.2))))) (Int.toNat aD) ax).2.1,((List.getD (List.set bz (Int.toNat ae) ((List.getD bz (Int.toNat ae) ax).1,((List.getD bz (Int.toNat ae) ax).2.1,((List.getD bz (Int.toNat ae) ax).2.2.1,((IntKind.wrap .i64 ((List.getD bz (Int.toNat ae) ax).2.2.2.1+a4)),(List.getD bz (Int.toNat ae) ax).2.2.2.2))))) (Int.toNat aD) ax).2.2.1,((IntKind.wrap .i64 ((List.getD (List.set bz (Int.toNat ae) ((List.getD bz (Int.toNat ae) ax).1,((List.getD bz (Int.toNat ae) ax).2.1,((List.getD bz (Int.toNat ae) ax).2.2.1,((IntKind.wrap .i64 ((List.getD bz (Int.toNat ae) ax).2.2.2.1+a4)),(List.getD bz (Int.toNat ae) ax).2.2.2.2))))) (Int.toNat aD) ax).2.2.2.1+a5)),(List.getD (List.set bz (Int.toNat ae) ((List.getD bz (Int.toNat ae) ax).1,((List.getD bz (Int.toNat ae) ax).2.1,((List.getD bz (Int.toNat ae) ax).2.2.1,((IntKind.wrap .i64 ((List.getD bz (Int.toNat ae) ax).2.2.2.1+a4)),(List.getD bz (Int.toNat ae) ax).2.2.2.2))))) (Int.toNat aD) ax).2.2.2.2))))) (fun aeJ=>
      AF N aeJ (fun Ju=>
       bif (!Ju) then
        Sy N a0 (fun Jv=>
         kf Jv false)
       else
        kf aeJ true))
    else none
   else none
  else none
 else none
noncomputable def aaL (N:Nat) (a0:(List QT)) (a1:Int) (a2:Int) (a3:Int) (a4:Int) (a5:Int) (kf:(List QT)→Bool→Option aa):Option aa:=
 Sy N a0 (fun aE=>
  NG N a0 a1 (fun ae=>
   NG N a0 a2 (fun aD=>
    AF N a0 (fun od=>
     bif (!od) then
      kf aE false
     else
      bif (decide (ae<(0:Int))) then
       kf aE false
      else
       bif (decide (aD<(0:Int))) then
        kf aE false
       else
        bif (ae==aD) then
         kf aE false
        else
         eF N a3 (1:Int) (2:Int) (fun aeK=>
          bif (!aeK) then
           kf aE false
          else
           eF N a4 (0:Int) (1000:Int) (fun aeL=>
            bif (!aeL) then
             kf aE false
            else
             eF N a5 (0:Int) (1000:Int) (fun aeM=>
              bif (!aeM) then
               kf aE false
              else
               bif (aM ae (List.length aE)) then
                bif (aM aD (List.length aE)) then
                 bif (decide ((List.length (List.getD aE (Int.toNat ae) ax).2.2.2.2.2+List.length [a2])*1≤4398046511104)) then
                  bif ((!(Nat.beq (Int.toNat ae) (Int.toNat aD)))&&true) then
                   bif (decide ((List.length (List.getD aE (Int.toNat aD) ax).2.2.2.2.2+List.length [a1])*1≤4398046511104)) then
                    bif (aM ae (List.length aE)) then
                     bif (Nat.beq (Int.toNat ae) (Int.toNat ae)) then
                      bif (aM aD (List.length (List.set aE (Int.toNat ae) ((List.getD aE (Int.toNat ae) ax).1,((List.getD aE (Int.toNat ae) ax).2.1,((List.getD aE (Int.toNat ae) ax).2.2.1,((List.getD aE (Int.toNat ae) ax).2.2.2.1,((List.getD aE (Int.toNat ae) ax).2.2.2.2.1,((List.getD aE (Int.toNat ae) ax).2.2.2.2.2++[a2]))))))))) then
                       bif (Nat.beq (Int.toNat aD) (Int.toNat aD)) then
                        share (List.set (List.set aE (Int.toNat ae) ((List.getD aE (Int.toNat ae) ax).1,((List.getD aE (Int.toNat ae) ax).2.1,((List.getD aE (Int.toNat ae) ax).2.2.1,((List.getD aE (Int.toNat ae) ax).2.2.2.1,((List.getD aE (Int.toNat ae) ax).2.2.2.2.1,((List.getD aE (Int.toNat ae) ax).2.2.2.2.2++[a2]))))))) (Int.toNat aD) ((List.getD (List.set aE (Int.toNat ae) ((List.getD aE (Int.toNat ae) ax).1,((List.getD aE (Int.toNat ae) ax).2.1,((List.getD aE (Int.toNat ae) ax).2.2.1,((List.getD aE (Int.toNat ae) ax).2.2.2.1,((List.getD aE (Int.toNat ae) ax).2.2.2.2.1,((List.getD aE (Int.toNat ae) ax).2.2.2.2.2++[a2]))))))) (Int.toNat aD) ax).1,((List.getD (List.set aE (Int.toNat ae) ((List.getD aE (Int.toNat ae) ax).1,((List.getD aE (Int.toNat ae) ax).2.1,((List.getD aE (Int.toNat ae) ax).2.2.1,((List.getD aE (Int.toNat ae) ax).2.2.2.1,((List.getD aE (Int.toNat ae) ax).2.2.2.2.1,((List.getD aE (Int.toNat ae) ax).2.2.2.2.2++[a2]))))))) (Int.toNat aD) ax).2.1,((List.getD (List.set aE (Int.toNat ae) ((List.getD aE (Int.toNat ae) ax).1,((List.getD aE (Int.toNat ae) ax).2.1,((List.getD aE (Int.toNat ae) ax).2.2.1,((List.getD aE (Int.toNat ae) ax).2.2.2.1,((List.getD aE (Int.toNat ae) ax).2.2.2.2.1,((List.getD aE (Int.toNat ae) ax).2.2.2.2.2++[a2]))))))) (Int.toNat aD) ax).2.2.1,((List.getD (List.set aE (Int.toNat ae) ((List.getD aE (Int.toNat ae) ax).1,((List.getD aE (Int.toNat ae) ax).2.1,((List.getD aE (Int.toNat ae) ax).2.2.1,((List.getD aE (Int.toNat ae) ax).2.2.2.1,((List.getD aE (Int.toNat ae) ax).2.2.2.2.1,((List.getD aE (Int.toNat ae) ax).2.2.2.2.2++[a2]))))))) (Int.toNat aD) ax).2.2.2.1,((List.getD (List.set aE (Int.toNat ae) ((List.getD aE (Int.toNat ae) ax).1,((List.getD aE (Int.toNat ae) ax).2.1,((List.getD aE (Int.toNat ae) ax).2.2.1,((List.getD aE (Int.toNat ae) ax).2.2.2.1,((List.getD aE (Int.toNat ae) ax).2.2.2.2.1,((List.getD aE (Int.toNat ae) ax).2.2.2.2.2++[a2]))))))) (Int.toNat aD) ax).2.2.2.2.1,((List.getD aE (Int.toNat aD) ax).2.2.2.2.2++[a1]))))))) (fun aA=>
                         bif (aM ae (List.length aA)) then
                          bif (aM ae (List.length aA)) then
                           bif (a3==(1:Int)) then
                            bif (aM ae (List.length (List.set aA (Int.toNat ae) ((List.getD aA (Int.toNat ae) ax).1,((List.getD aA (Int.toNat ae) ax).2.1,((List.getD aA (Int.toNat ae) ax).2.2.1,((List.getD aA (Int.toNat ae) ax).2.2.2.1,((IntKind.wrap .i64 ((List.getD aA (Int.toNat ae) ax).2.2.2.2.1+(1:Int))),(List.getD aA (Int.toNat ae) ax).2.2.2.2.2)))))))) then
                             bif (aM ae (List.length (List.set aA (Int.toNat ae) ((List.getD aA (Int.toNat ae) ax).1,((List.getD aA (Int.toNat ae) ax).2.1,((List.getD aA (Int.toNat ae) ax).2.2.1,((List.getD aA (Int.toNat ae) ax).2.2.2.1,((IntKind.wrap .i64 ((List.getD aA (Int.toNat ae) ax).2.2.2.2.1+(1:Int))),(List.getD aA (Int.toNat ae) ax).2.2.2.2.2)))))))) then
                              share (List.set (List.set aA (Int.toNat ae) ((List.getD aA (Int.toNat ae) ax).1,((List.getD aA (Int.toNat ae) ax).2.1,((List.getD aA (Int.toNat ae) ax).2.2.1,((List.getD aA (Int.toNat ae) ax).2.2.2.1,((IntKind.wrap .i64 ((List.getD aA (Int.toNat ae) ax).2.2.2.2.1+(1:Int))),(List.getD aA (Int.toNat ae) ax).2.2.2.2.2)))))) (Int.toNat ae) ((List.getD (List.set aA (Int.toNat ae) ((List.getD aA (Int.toNat ae) ax).1,((List.getD aA (Int.toNat ae) ax).2.1,((List.getD aA (Int.toNat ae) ax).2.2.1,((List.getD aA (Int.toNat ae) ax).2.2.2.1,((IntKind.wrap .i64 ((List.getD aA (Int.toNat ae) ax).2.2.2.2.1+(1:Int))),(List.getD aA (Int.toNat ae) ax).2.2.2.2.2)))))) (Int.toNat ae) ax).1,((List.getD (List.set aA (Int.toNat ae) ((List.getD aA (Int.toNat ae) ax).1,((List.getD aA (Int.toNat ae) ax).2.1,((List.getD aA (Int.toNat ae) ax).2.2.1,((List.getD aA (Int.toNat ae) ax).2.2.2.1,((IntKind.wrap .i64 ((List.getD aA (Int.toNat ae) ax).2.2.2.2.1+(1:Int))),(List.getD aA (Int.toNat ae) ax).2.2.2.2.2)))))) (Int.toNat ae) ax).2.1,((IntKind.wrap .i64 ((List.getD (List.set aA (Int.toNat ae) ((List.getD aA (Int.toNat ae) ax).1,((List.getD aA (Int.toNat ae) ax).2.1,((List.getD aA (Int.toNat ae) ax).2.2.1,((List.getD aA (Int.toNat ae) ax).2.2.2.1,((IntKind.wrap .i64 ((List.getD aA (Int.toNat ae) ax).2.2.2.2.1+(1:Int))),(List.getD aA (Int.toNat ae) ax).2.2.2.2.2)))))) (Int.toNat ae) ax).2.2.1+(1:Int))),(List.getD (List.set aA (Int.toNat ae) ((List.getD aA (Int.toNat ae) ax).1,((List.getD aA (Int.toNat ae) ax).2.1,((List.getD aA (Int.toNat ae) ax).2.2.1,((List.getD aA (Int.toNat ae) ax).2.2.2.1,((IntKind.wrap .i64 ((List.getD aA (Int.toNat ae) ax).2.2.2.2.1+(1:Int))),(List.getD aA (Int.toNat ae) ax).2.2.2.2.2)))))) (Int.toNat ae) ax).2.2.2)))) (fun aY=>
                               Jt N a0 a4 a5 kf ae aD aY)
                             else none
                            else none
                           else
                            bif (aM aD (List.length (List.set aA (Int.toNat ae) ((List.getD aA (Int.toNat ae) ax).1,((List.getD aA (Int.toNat ae) ax).2.1,((List.getD aA (Int.toNat ae) ax).2.2.1,((List.getD aA (Int.toNat ae) ax).2.2.2.1,((IntKind.wrap .i64 ((List.getD aA (Int.toNat ae) ax).2.2.2.2.1+(1:Int))),(List.getD aA (Int.toNat ae) ax).2.2.2.2.2)))))))) then
                             bif (aM aD (List.length (List.set aA (Int.toNat ae) ((List.getD aA (Int.toNat ae) ax).1,((List.getD aA (Int.toNat ae) ax).2.1,((List.getD aA (Int.toNat ae) ax).2.2.1,((List.getD aA (Int.toNat ae) ax).2.2.2.1,((IntKind.wrap .i64 ((List.getD aA (Int.toNat ae) ax).2.2.2.2.1+(1:Int))),(List.getD aA (Int.toNat ae) ax).2.2.2.2.2)))))))) then
                              share (List.set (List.set aA (Int.toNat ae) ((List.getD aA (Int.toNat ae) ax).1,((List.getD aA (Int.toNat ae) ax).2.1,((List.getD aA (Int.toNat ae) ax).2.2.1,((List.getD aA (Int.toNat ae) ax).2.2.2.1,((IntKind.wrap .i64 ((List.getD aA (Int.toNat ae) ax).2.2.2.2.1+(1:Int))),(List.getD aA (Int.toNat ae) ax).2.2.2.2.2)))))) (Int.toNat aD) ((List.getD (List.set aA (Int.toNat ae) ((List.getD aA (Int.toNat ae) ax).1,((List.getD aA (Int.toNat ae) ax).2.1,((List.getD aA (Int.toNat ae) ax).2.2.1,((List.getD aA (Int.toNat ae) ax).2.2.2.1,((IntKind.wrap .i64 ((List.getD aA (Int.toNat ae) ax).2.2.2.2.1+(1:Int))),(List.getD aA (Int.toNat ae) ax).2.2.2.2.2)))))) (Int.toNat aD) ax).1,((List.getD (List.set aA (Int.toNat ae) ((List.getD aA (Int.toNat ae) ax).1,((List.getD aA (Int.toNat ae) ax).2.1,((List.getD aA (Int.toNat ae) ax).2.2.1,((List.getD aA (Int.toNat ae) ax).2.2.2.1,((IntKind.wrap .i64 ((List.getD aA (Int.toNat ae) ax).2.2.2.2.1+(1:Int))),(List.getD aA (Int.toNat ae) ax).2.2.2.2.2)))))) (Int.toNat aD) ax).2.1,((IntKind.wrap .i64 ((List.getD (List.set aA (Int.toNat ae) ((List.getD aA (Int.toNat ae) ax).1,((List.getD aA (Int.toNat ae) ax).2.1,((List.getD aA (Int.toNat ae) ax).2.2.1,((List.getD aA (Int.toNat ae) ax).2.2.2.1,((IntKind.wrap .i64 ((List.getD aA (Int.toNat ae) ax).2.2.2.2.1+(1:Int))),(List.getD aA (Int.toNat ae) ax).2.2.2.2.2)))))) (Int.toNat aD) ax).2.2.1+(1:Int))),(List.getD (List.set aA (Int.toNat ae) ((List.getD aA (Int.toNat ae) ax).1,((List.getD aA (Int.toNat ae) ax).2.1,((List.getD aA (Int.toNat ae) ax).2.2.1,((List.getD aA (Int.toNat ae) ax).2.2.2.1,((IntKind.wrap .i64 ((List.getD aA (Int.toNat ae) ax).2.2.2.2.1+(1:Int))),(List.getD aA (Int.toNat ae) ax).2.2.2.2.2)))))) (Int.toNat aD) ax).2.2.2)))) (fun SV=>
                               Jt N a0 a4 a5 kf ae aD SV)
                             else none
                            else none
                          else none
                         else none)
                       else none
                      else none
                     else none
                    else none
                   else none
                  else none
                 else none
                else none
               else none)))))))
noncomputable def aaM (N:Nat) (a0:(List Int)) (kf:(List Int)→Option aa):Option aa:=
 bif (Nat.blt (List.length a0) 4611686018427387904) then
  kf (kZ a0)
 else none
noncomputable def aeN (N:Nat) (a0:(List Int)) (kf:(List Int)→Option aa):Option aa:=
 kf (dp a0)
noncomputable def uY (N:Nat) (im:QC) (aaH:QC) (fp:(List a8)) (aeO:Int):Nat→(QC→Option aa)→(QC→Bool→Option aa)→QC→Int→Option aa
 |0,_,_,_,_=>none
 |ave+1,sK,sL,gS,iu=>
  bif (decide (iu<aeO)) then
   bif (aM iu (List.length fp)) then
    bif (aM iu (List.length im.2.2.2.2.1)) then
     aaK N [(List.getD im.2.2.2.2.1 (Int.toNat iu) fu)] (fun Fv=>
      aaL N gS.1 (List.getD fp (Int.toNat iu) cC).1 (List.getD fp (Int.toNat iu) cC).2 Fv (List.getD im.2.2.2.2.1 (Int.toNat iu) fu).2.1 (List.getD im.2.2.2.2.1 (Int.toNat iu) fu).2.2 (fun Fw Fx=>
       bif (!Fx) then
        H8 N im (fun Fy=>
         sL Fy false)
       else
        bif (aM iu (List.length im.2.2.2.1)) then
         SN N gS.2.1 (List.getD im.2.2.2.1 (Int.toNat iu) (0:Int)) (fun cV=>
          bif (aM cV (List.length gS.2.1)) then
           bif (decide ((List.length (List.getD gS.2.1 (Int.toNat cV) cg).2.2+List.length [(List.getD fp (Int.toNat iu) cC).1,(List.getD fp (Int.toNat iu) cC).2])*1≤4398046511104)) then
            aaM N ((List.getD gS.2.1 (Int.toNat cV) cg).2.2++[(List.getD fp (Int.toNat iu) cC).1,(List.getD fp (Int.toNat iu) cC).2]) (fun Fz=>
             aeN N Fz (fun FA=>
              bif (aM cV (List.length gS.2.1)) then
               bif (Nat.beq (Int.toNat cV) (Int.toNat cV)) then
                (uY N im aaH fp aeO ave sK sL) (Fw,((List.set gS.2.1 (Int.toNat cV) ((List.getD gS.2.1 (Int.toNat cV) cg).1,((List.getD gS.2.1 (Int.toNat cV) cg).2.1,FA))),gS.2.2)) (IntKind.wrap .i64 (iu+(1:Int)))
               else none
              else none))
           else none
          else none)
        else none))
    else none
   else none
  else
   sK gS
noncomputable def I28 (N:Nat) (a0:QC) (kf:QC→Bool→Option aa):Option aa:=
 I39 N a0 (fun qD=>
  bif (!qD) then
   H8 N a0 (fun od=>
    kf od false)
  else
   I16 N a0 (fun oa=>
    bif (!oa) then
     H8 N a0 (fun od=>
      kf od false)
    else
     I41 N a0 (fun aeP=>
      bif (decide ((List.length aeP:Int)>(0:Int))) then
       H8 N a0 (fun az'=>
        kf az' false)
      else
       H8 N a0 (fun aAa=>
        uY N a0 (([]:(List QT)),(([]:(List QJ)),(([]:(List a8)),(([]:(List Int)),(([]:(List QB)),(([]:(List QL)),(0:Int))))))) a0.2.2.1 (List.length a0.2.2.1:Int) N (fun Xh=>
         Jk N a0 (Xh.1,(Xh.2.1,(([]:(List a8)),(([]:(List Int)),(([]:(List QB)),(Xh.2.2.2.2.2.1,(IntKind.wrap .i64 (Xh.2.2.2.2.2.2+(List.length a0.2.2.1:Int))))))))) (5:Int) (0:Int) kf) kf aAa (0:Int)))))
noncomputable def avf (N:Nat) (a0:(List QT)) (a1:Int) (a2:Int) (kf:(List QT)→Option aa):Option aa:=
 bif (decide ((0:Int)≤a1)&&(decide (a1≤a2)&&decide (a2≤(List.length a0:Int)))) then
  kf (List.take (Int.toNat a1) a0++List.drop (Int.toNat a2) a0)
 else none
noncomputable def I38 (N:Nat) (a0:QC) (a1:Int) (kf:QC→Bool→Option aa):Option aa:=
 H8 N a0 (fun jv=>
  NG N a0.1 a1 (fun fR=>
   bif (decide (fR<(0:Int))) then
    kf jv false
   else
    bif (aM fR (List.length a0.1)) then
     bif (decide ((List.length (List.getD a0.1 (Int.toNat fR) ax).2.2.2.2.2:Int)>(0:Int))) then
      kf jv false
     else
      I16 N a0 (fun aeQ=>
       bif aeQ then
        kf jv false
       else
        avf N jv.1 fR (IntKind.wrap .i64 (fR+(1:Int))) (fun aAb=>
         Jk N a0 (aAb,jv.2) (6:Int) a1 kf))
    else none))
noncomputable def I13 (N:Nat) (a0:QC) (a1:QL) (kf:QC→Bool→Option aa):Option aa:=
 bif (a1.1==(1:Int)) then
  I30 N a0 a1.2.1 a1.2.2.1 kf
 else
  bif (a1.1==(2:Int)) then
   I32 N a0 a1.2.1 a1.2.2.1 kf
  else
   bif (a1.1==(3:Int)) then
    I23 N a0 kf
   else
    bif (a1.1==(4:Int)) then
     I35 N a0 a1.2.2.2 a1.2.1 a1.2.2.1 kf
    else
     bif (a1.1==(5:Int)) then
      I28 N a0 kf
     else
      bif (a1.1==(6:Int)) then
       I38 N a0 a1.2.1 kf
      else
       H8 N a0 (fun SW=>
        kf SW false)
noncomputable def L87 (N:Nat) (a0:(List Int)) (a1:Int) (kf:Int→Option aa):Option aa:=
 bif (decide ((IntKind.wrap .i64 (a1 - (List.length a0:Int)))<(0:Int))) then
  kf (-1:Int)
 else
  kf (IntKind.wrap .i64 (a1 - (List.length a0:Int)))
noncomputable def aaN (N:Nat) (a0:QT) (a1:Int) (kf:Int→Option aa):Option aa:=
 L87 N a0.2.2.2.2.2 a1 (fun ph=>
  bif (decide (ph<(0:Int))) then
   kf (-1:Int)
  else
   kf ph)
noncomputable def uZ (N:Nat) (ab:(List QT)):Nat→(Int→Option aa)→(Int→Option aa)→Int→Int→Option aa
 |0,_,_,_,_=>none
 |eT+1,jQ,jR,aj,ak=>
  bif (decide (ak<(List.length ab:Int))) then
   bif (aM ak (List.length ab)) then
    aaN N (List.getD ab (Int.toNat ak) ax) aj (fun gB=>
     bif (decide (gB<(0:Int))) then
      jR (-1:Int)
     else
      (uZ N ab eT jQ jR) gB (IntKind.wrap .i64 (ak+(1:Int))))
   else none
  else
   jQ aj
noncomputable def L84 (N:Nat) (a0:(List QT)) (a1:Int) (kf:Int→Option aa):Option aa:=
 bif (decide ((IntKind.wrap .i64 (a1 - (List.length a0:Int)))<(0:Int))) then
  kf (-1:Int)
 else
  uZ N a0 N kf kf (IntKind.wrap .i64 (a1 - (List.length a0:Int))) (0:Int)
noncomputable def aaO (N:Nat) (a0:QJ) (a1:Int) (kf:Int→Option aa):Option aa:=
 L87 N a0.2.2 a1 (fun ph=>
  bif (decide (ph<(0:Int))) then
   kf (-1:Int)
  else
   kf ph)
noncomputable def u5 (N:Nat) (ab:(List QJ)):Nat→(Int→Option aa)→(Int→Option aa)→Int→Int→Option aa
 |0,_,_,_,_=>none
 |eT+1,jQ,jR,aj,ak=>
  bif (decide (ak<(List.length ab:Int))) then
   bif (aM ak (List.length ab)) then
    aaO N (List.getD ab (Int.toNat ak) cg) aj (fun gB=>
     bif (decide (gB<(0:Int))) then
      jR (-1:Int)
     else
      (u5 N ab eT jQ jR) gB (IntKind.wrap .i64 (ak+(1:Int))))
   else none
  else
   jQ aj
noncomputable def L85 (N:Nat) (a0:(List QJ)) (a1:Int) (kf:Int→Option aa):Option aa:=
 bif (decide ((IntKind.wrap .i64 (a1 - (List.length a0:Int)))<(0:Int))) then
  kf (-1:Int)
 else
  u5 N a0 N kf kf (IntKind.wrap .i64 (a1 - (List.length a0:Int))) (0:Int)
noncomputable def L86 (N:Nat) (a0:(List a8)) (a1:Int) (kf:Int→Option aa):Option aa:=
 bif (decide ((IntKind.wrap .i64 (a1 - (List.length a0:Int)))<(0:Int))) then
  kf (-1:Int)
 else
  kf (IntKind.wrap .i64 (a1 - (List.length a0:Int)))
noncomputable def L88 (N:Nat) (a0:(List QB)) (a1:Int) (kf:Int→Option aa):Option aa:=
 bif (decide ((IntKind.wrap .i64 (a1 - (List.length a0:Int)))<(0:Int))) then
  kf (-1:Int)
 else
  kf (IntKind.wrap .i64 (a1 - (List.length a0:Int)))
noncomputable def L89 (N:Nat) (a0:(List QL)) (a1:Int) (kf:Int→Option aa):Option aa:=
 bif (decide ((IntKind.wrap .i64 (a1 - (List.length a0:Int)))<(0:Int))) then
  kf (-1:Int)
 else
  kf (IntKind.wrap .i64 (a1 - (List.length a0:Int)))
noncomputable def L20 (N:Nat) (a0:QC) (a1:Int) (kf:Int→Option aa):Option aa:=
 L84 N a0.1 a1 (fun ph=>
  bif (decide (ph<(0:Int))) then
   kf (-1:Int)
  else
   L85 N a0.2.1 ph (fun cr=>
    bif (decide (cr<(0:Int))) then
     kf (-1:Int)
    else
     L86 N a0.2.2.1 cr (fun NU=>
      bif (decide (NU<(0:Int))) then
       kf (-1:Int)
      else
       L87 N a0.2.2.2.1 NU (fun od=>
        bif (decide (od<(0:Int))) then
         kf (-1:Int)
        else
         L88 N a0.2.2.2.2.1 od (fun NV=>
          bif (decide (NV<(0:Int))) then
           kf (-1:Int)
          else
           L89 N a0.2.2.2.2.2.1 NV (fun NW=>
            bif (decide (NW<(0:Int))) then
             kf (-1:Int)
            else
             kf NW))))))
noncomputable def u6 (ab:(List Int)):Nat→((List Int)→Option aa)→(List Int)→Int→Option aa
 |0,_,_,_=>none
 |eT+1,eU,ao,bc=>
  bif (decide (bc<(List.length ab:Int))) then
   bif (aM bc (List.length ab)) then
    bif (aM bc (List.length ao)) then
     (u6 ab eT eU) (List.set ao (Int.toNat bc) (List.getD ab (Int.toNat bc) (0:Int))) (IntKind.wrap .i64 (bc+(1:Int)))
    else none
   else none
  else
   eU ao
noncomputable def L98 (N:Nat) (a0:(List Int)) (kf:(List Int)→Option aa):Option aa:=
 bif (decide ((List.length a0:Int)=(List.length a0:Int))&&decide ((0:Int)≤(List.length a0:Int))&&decide ((List.length a0:Int)≤1099511627776)) then
  u6 a0 N kf (List.replicate (Int.toNat (List.length a0:Int)) (0:Int)) (0:Int)
 else none
noncomputable def aaP (N:Nat) (a0:QT) (kf:QT→Option aa):Option aa:=
 L98 N a0.2.2.2.2.2 (fun aAc=>
  kf (a0.1,(a0.2.1,(a0.2.2.1,(a0.2.2.2.1,(a0.2.2.2.2.1,aAc))))))
noncomputable def u7 (N:Nat) (ab:(List QT)):Nat→((List QT)→Option aa)→(List QT)→Int→Option aa
 |0,_,_,_=>none
 |eT+1,a6,ao,bc=>
  bif (decide (bc<(List.length ab:Int))) then
   bif (aM bc (List.length ab)) then
    aaP N (List.getD ab (Int.toNat bc) ax) (fun gm=>
     bif (aM bc (List.length ao)) then
      (u7 N ab eT a6) (List.set ao (Int.toNat bc) gm) (IntKind.wrap .i64 (bc+(1:Int)))
     else none)
   else none
  else
   a6 ao
noncomputable def L95 (N:Nat) (a0:(List QT)) (kf:(List QT)→Option aa):Option aa:=
 bif (decide ((List.length a0:Int)=(List.length a0:Int))&&decide ((0:Int)≤(List.length a0:Int))&&decide ((List.length a0:Int)≤1099511627776)) then
  u7 N a0 N kf (List.replicate (Int.toNat (List.length a0:Int)) ((0:Int),((0:Int),((0:Int),((0:Int),((0:Int),([]:(List Int)))))))) (0:Int)
 else none
noncomputable def aaQ (N:Nat) (a0:QJ) (kf:QJ→Option aa):Option aa:=
 L98 N a0.2.2 (fun qD=>
  kf (a0.1,(a0.2.1,qD)))
noncomputable def u9 (N:Nat) (ab:(List QJ)):Nat→((List QJ)→Option aa)→(List QJ)→Int→Option aa
 |0,_,_,_=>none
 |eT+1,a6,ao,bc=>
  bif (decide (bc<(List.length ab:Int))) then
   bif (aM bc (List.length ab)) then
    aaQ N (List.getD ab (Int.toNat bc) cg) (fun gm=>
     bif (aM bc (List.length ao)) then
      (u9 N ab eT a6) (List.set ao (Int.toNat bc) gm) (IntKind.wrap .i64 (bc+(1:Int)))
     else none)
   else none
  else
   a6 ao
noncomputable def L96 (N:Nat) (a0:(List QJ)) (kf:(List QJ)→Option aa):Option aa:=
 bif (decide ((List.length a0:Int)=(List.length a0:Int))&&decide ((0:Int)≤(List.length a0:Int))&&decide ((List.length a0:Int)≤1099511627776)) then
  u9 N a0 N kf (List.replicate (Int.toNat (List.length a0:Int)) ((0:Int),((0:Int),([]:(List Int))))) (0:Int)
 else none
noncomputable def aaR (N:Nat) (a0:a8) (kf:a8→Option aa):Option aa:=
 kf (a0.1,a0.2)
noncomputable def va (N:Nat) (ab:(List a8)):Nat→((List a8)→Option aa)→(List a8)→Int→Option aa
 |0,_,_,_=>none
 |eT+1,a6,ao,bc=>
  bif (decide (bc<(List.length ab:Int))) then
   bif (aM bc (List.length ab)) then
    aaR N (List.getD ab (Int.toNat bc) cC) (fun gm=>
     bif (aM bc (List.length ao)) then
      (va N ab eT a6) (List.set ao (Int.toNat bc) gm) (IntKind.wrap .i64 (bc+(1:Int)))
     else none)
   else none
  else
   a6 ao
noncomputable def L97 (N:Nat) (a0:(List a8)) (kf:(List a8)→Option aa):Option aa:=
 bif (decide ((List.length a0:Int)=(List.length a0:Int))&&decide ((0:Int)≤(List.length a0:Int))&&decide ((List.length a0:Int)≤1099511627776)) then
  va N a0 N kf (List.replicate (Int.toNat (List.length a0:Int)) ((0:Int),(0:Int))) (0:Int)
 else none
noncomputable def aaS (N:Nat) (a0:QB) (kf:QB→Option aa):Option aa:=
 kf (a0.1,(a0.2.1,a0.2.2))
noncomputable def vd (N:Nat) (ab:(List QB)):Nat→((List QB)→Option aa)→(List QB)→Int→Option aa
 |0,_,_,_=>none
 |eT+1,a6,ao,bc=>
  bif (decide (bc<(List.length ab:Int))) then
   bif (aM bc (List.length ab)) then
    aaS N (List.getD ab (Int.toNat bc) fu) (fun gm=>
     bif (aM bc (List.length ao)) then
      (vd N ab eT a6) (List.set ao (Int.toNat bc) gm) (IntKind.wrap .i64 (bc+(1:Int)))
     else none)
   else none
  else
   a6 ao
noncomputable def L99 (N:Nat) (a0:(List QB)) (kf:(List QB)→Option aa):Option aa:=
 bif (decide ((List.length a0:Int)=(List.length a0:Int))&&decide ((0:Int)≤(List.length a0:Int))&&decide ((List.length a0:Int)≤1099511627776)) then
  vd N a0 N kf (List.replicate (Int.toNat (List.length a0:Int)) ((0:Int),((0:Int),(0:Int)))) (0:Int)
 else none
noncomputable def aaT (N:Nat) (a0:QL) (kf:QL→Option aa):Option aa:=
 kf (a0.1,(a0.2.1,(a0.2.2.1,a0.2.2.2)))
noncomputable def pI (N:Nat) (ab:(List QL)):Nat→((List QL)→Option aa)→(List QL)→Int→Option aa
 |0,_,_,_=>none
 |eT+1,a6,ao,bc=>
  bif (decide (bc<(List.length ab:Int))) then
   bif (aM bc (List.length ab)) then
    aaT N (List.getD ab (Int.toNat bc) mf) (fun gm=>
     bif (aM bc (List.length ao)) then
      (pI N ab eT a6) (List.set ao (Int.toNat bc) gm) (IntKind.wrap .i64 (bc+(1:Int)))
     else none)
   else none
  else
   a6 ao
noncomputable def ak6 (N:Nat) (a0:(List QL)) (kf:(List QL)→Option aa):Option aa:=
 bif (decide ((List.length a0:Int)=(List.length a0:Int))&&decide ((0:Int)≤(List.length a0:Int))&&decide ((List.length a0:Int)≤1099511627776)) then
  pI N a0 N kf (List.replicate (Int.toNat (List.length a0:Int)) ((0:Int),((0:Int),((0:Int),(0:Int))))) (0:Int)
 else none
noncomputable def L22 (N:Nat) (a0:QC) (kf:QC→Option aa):Option aa:=
 L95 N a0.1 (fun avg=>
  L96 N a0.2.1 (fun Xd=>
   L97 N a0.2.2.1 (fun Fl=>
    L98 N a0.2.2.2.1 (fun aAd=>
     L99 N a0.2.2.2.2.1 (fun aeR=>
      ak6 N a0.2.2.2.2.2.1 (fun aAe=>
       kf (avg,(Xd,(Fl,(aAd,(aeR,(aAe,a0.2.2.2.2.2.2))))))))))))
noncomputable def pJ (ab:(List QT)):Nat→((List QT)→Option aa)→(List QT)→Int→Option aa
 |0,_,_,_=>none
 |eT+1,eU,ao,bc=>
  bif (decide (bc<(List.length ab:Int))) then
   bif (aM bc (List.length ab)) then
    bif (decide ((List.length ([]:(List Int))+List.length (List.getD ab (Int.toNat bc) ax).2.2.2.2.2)*1≤4398046511104)) then
     bif (decide ((List.length ao+List.length [((List.getD ab (Int.toNat bc) ax).1,((List.getD ab (Int.toNat bc) ax).2.1,((List.getD ab (Int.toNat bc) ax).2.2.1,((List.getD ab (Int.toNat bc) ax).2.2.2.1,((List.getD ab (Int.toNat bc) ax).2.2.2.2.1,(([]:(List Int))++(List.getD ab (Int.toNat bc) ax).2.2.2.2.2))))))])*6≤4398046511104)) then
      (pJ ab eT eU) (ao++[((List.getD ab (Int.toNat bc) ax).1,((List.getD ab (Int.toNat bc) ax).2.1,((List.getD ab (Int.toNat bc) ax).2.2.1,((List.getD ab (Int.toNat bc) ax).2.2.2.1,((List.getD ab (Int.toNat bc) ax).2.2.2.2.1,(([]:(List Int))++(List.getD ab (Int.toNat bc) ax).2.2.2.2.2))))))]) (IntKind.wrap .i64 (bc+(1:Int)))
     else none
    else none
   else none
  else
   eU ao
noncomputable def FC (N:Nat) (a0:(List QT)) (kf:(List QT)→Option aa):Option aa:=
 pJ a0 N kf ([]:(List QT)) (0:Int)
noncomputable def pK (ab:(List QJ)):Nat→((List QJ)→Option aa)→(List QJ)→Int→Option aa
 |0,_,_,_=>none
 |eT+1,eU,ao,bc=>
  bif (decide (bc<(List.length ab:Int))) then
   bif (aM bc (List.length ab)) then
    bif (decide ((List.length ([]:(List Int))+List.length (List.getD ab (Int.toNat bc) cg).2.2)*1≤4398046511104)) then
     bif (decide ((List.length ao+List.length [((List.getD ab (Int.toNat bc) cg).1,((List.getD ab (Int.toNat bc) cg).2.1,(([]:(List Int))++(List.getD ab (Int.toNat bc) cg).2.2)))])*3≤4398046511104)) then
      (pK ab eT eU) (ao++[((List.getD ab (Int.toNat bc) cg).1,((List.getD ab (Int.toNat bc) cg).2.1,(([]:(List Int))++(List.getD ab (Int.toNat bc) cg).2.2)))]) (IntKind.wrap .i64 (bc+(1:Int)))
     else none
    else none
   else none
  else
   eU ao
noncomputable def SX (N:Nat) (a0:(List QJ)) (kf:(List QJ)→Option aa):Option aa:=
 pK a0 N kf ([]:(List QJ)) (0:Int)
noncomputable def SY (N:Nat) (a0:QC) (kf:QC→Option aa):Option aa:=
 FC N a0.1 (fun Ff=>
  SX N a0.2.1 (fun auX=>
   bif (decide ((List.length ([]:(List a8))+List.length a0.2.2.1)*2≤4398046511104)) then
    bif (decide ((List.length ([]:(List Int))+List.length a0.2.2.2.1)*1≤4398046511104)) then
     bif (decide ((List.length ([]:(List QB))+List.length a0.2.2.2.2.1)*3≤4398046511104)) then
      bif (decide ((List.length ([]:(List QL))+List.length a0.2.2.2.2.2.1)*4≤4398046511104)) then
       kf (Ff,(auX,((([]:(List a8))++a0.2.2.1),((([]:(List Int))++a0.2.2.2.1),((([]:(List QB))++a0.2.2.2.2.1),((([]:(List QL))++a0.2.2.2.2.2.1),a0.2.2.2.2.2.2))))))
      else none
     else none
    else none
   else none))
noncomputable def gy (N:Nat) (a0:Int) (a1:Int) (a2:Int) (kf:Bool→Option aa):Option aa:=
 bif (decide (a0≥a1)) then
  kf (decide (a0≤a2))
 else
  kf false
noncomputable def pL (ab:(List QT)) (aj:Int):Nat→(Option aa)→(Int→Option aa)→Int→Option aa
 |0,_,_,_=>none
 |eT+1,bu,bB,ak=>
  bif (decide (ak<(List.length ab:Int))) then
   bif (aM ak (List.length ab)) then
    bif ((List.getD ab (Int.toNat ak) ax).1==aj) then
     bB ak
    else
     (pL ab aj eT bu bB) (IntKind.wrap .i64 (ak+(1:Int)))
   else none
  else
   bu
noncomputable def ve (N:Nat) (a0:(List QT)) (a1:Int) (kf:Int→Option aa):Option aa:=
 pL a0 a1 N (kf (-1:Int)) kf (0:Int)
noncomputable def mZ (ab:(List Int)) (aj:Int):Nat→(Int→Option aa)→Int→Int→Option aa
 |0,_,_,_=>none
 |mG+1,bJ,ak,fL=>
  bif (decide (fL<(List.length ab:Int))) then
   bif (aM fL (List.length ab)) then
    bif ((List.getD ab (Int.toNat fL) (0:Int))==aj) then
     (mZ ab aj mG bJ) (IntKind.wrap .i64 (ak+(1:Int))) (IntKind.wrap .i64 (fL+(1:Int)))
    else
     (mZ ab aj mG bJ) ak (IntKind.wrap .i64 (fL+(1:Int)))
   else none
  else
   bJ ak
noncomputable def SZ (N:Nat) (a0:(List Int)) (a1:Int) (kf:Int→Option aa):Option aa:=
 mZ a0 a1 N kf (0:Int) (0:Int)
noncomputable def ja (N:Nat) (xB:(List QT)) (Ib:Int) (eR:QT):Nat→(Option aa)→(Bool→Option aa)→Int→Option aa
 |0,_,_,_=>none
 |ave+1,sM,ka,Xi=>
  bif (decide (Xi<(List.length eR.2.2.2.2.2:Int))) then
   bif (aM Xi (List.length eR.2.2.2.2.2)) then
    ve N xB (List.getD eR.2.2.2.2.2 (Int.toNat Xi) (0:Int)) (fun jS=>
     bif (decide (jS<(0:Int))) then
      ka false
     else
      bif (jS==Ib) then
       ka false
      else
       bif (aM jS (List.length xB)) then
        bif (aM jS (List.length xB)) then
         SZ N (List.getD xB (Int.toNat jS) ax).2.2.2.2.2 eR.1 (fun Jw=>
          SZ N eR.2.2.2.2.2 (List.getD xB (Int.toNat jS) ax).1 (fun Jx=>
           bif (Jw != Jx) then
            ka false
           else
            (ja N xB Ib eR ave sM ka) (IntKind.wrap .i64 (Xi+(1:Int)))))
        else none
       else none)
   else none
  else
   sM
noncomputable def m5 (N:Nat) (ab:(List QT)):Nat→(Option aa)→(Bool→Option aa)→Int→Option aa
 |0,_,_,_=>none
 |n_3+1,pM,cW,ao=>
  bif (decide (ao<(List.length ab:Int))) then
   bif (aM ao (List.length ab)) then
    gy N (List.getD ab (Int.toNat ao) ax).1 (1:Int) (99:Int) (fun Fu=>
     bif (!Fu) then
      cW false
     else
      gy N (List.getD ab (Int.toNat ao) ax).2.1 (1:Int) (99:Int) (fun FD=>
       bif (!FD) then
        cW false
       else
        gy N (List.getD ab (Int.toNat ao) ax).2.2.1 (0:Int) (List.length (List.getD ab (Int.toNat ao) ax).2.2.2.2.2:Int) (fun NP=>
         bif (!NP) then
          cW false
         else
          gy N (List.getD ab (Int.toNat ao) ax).2.2.2.2.1 (0:Int) (List.length (List.getD ab (Int.toNat ao) ax).2.2.2.2.2:Int) (fun aeS=>
           bif (!aeS) then
            cW false
           else
            gy N (List.getD ab (Int.toNat ao) ax).2.2.2.1 (0:Int) (100000:Int) (fun aeT=>
             bif (!aeT) then
              cW false
             else
              bif (decide ((List.length (List.getD ab (Int.toNat ao) ax).2.2.2.2.2:Int)>(20:Int))) then
               cW false
              else
               bif (decide (ao>(0:Int))) then
                bif (aM (IntKind.wrap .i64 (ao - (1:Int))) (List.length ab)) then
                 bif (decide ((List.getD ab (Int.toNat (IntKind.wrap .i64 (ao - (1:Int)))) ax).1≥(List.getD ab (Int.toNat ao) ax).1)) then
                  cW false
                 else
                  ja N ab ao (List.getD ab (Int.toNat ao) ax) N ((m5 N ab n_3 pM cW) (IntKind.wrap .i64 (ao+(1:Int)))) cW (0:Int)
                else none
               else
                ja N ab ao (List.getD ab (Int.toNat ao) ax) N ((m5 N ab n_3 pM cW) (IntKind.wrap .i64 (ao+(1:Int)))) cW (0:Int))))))
   else none
  else
   pM
noncomputable def tF (N:Nat) (a0:(List QT)) (kf:Bool→Option aa):Option aa:=
 m5 N a0 N (kf (decide ((List.length a0:Int)≤(10:Int)))) kf (0:Int)
noncomputable def aeU (N:Nat) (a0:QT) (a1:QT) (kf:Bool→Option aa):Option aa:=
 bif (a0.2.2.1 != a1.2.2.1) then
  kf (decide (a0.2.2.1>a1.2.2.1))
 else
  bif (decide (a0.2.2.2.1>a1.2.2.2.1)) then
   kf true
  else
   bif (a0.2.2.2.1==a1.2.2.2.1) then
    kf (decide (a0.1<a1.1))
   else
    kf false
noncomputable def kG (m6:(List QT)):Nat→((List Int)→Option aa)→(List Int)→Int→Option aa
 |0,_,_,_=>none
 |aBr+1,oe,k9,NX=>
  bif (decide (NX<(List.length m6:Int))) then
   bif (aM NX (List.length m6)) then
    bif (decide ((List.length k9+List.length [(List.getD m6 (Int.toNat NX) ax).1])*1≤4398046511104)) then
     (kG m6 aBr oe) (k9++[(List.getD m6 (Int.toNat NX) ax).1]) (IntKind.wrap .i64 (NX+(1:Int)))
    else none
   else none
  else
   oe k9
noncomputable def pN (N:Nat) (eI:(List QT)) (jc:(List QT)) (xC:Int):Nat→(Int→Option aa)→Int→Option aa
 |0,_,_=>none
 |aaD+1,Jy,aaU=>
  bif (decide (aaU>(0:Int))) then
   bif (aM xC (List.length eI)) then
    bif (aM (IntKind.wrap .i64 (aaU - (1:Int))) (List.length jc)) then
     aeU N (List.getD eI (Int.toNat xC) ax) (List.getD jc (Int.toNat (IntKind.wrap .i64 (aaU - (1:Int)))) ax) (fun avh=>
      bif avh then
       (pN N eI jc xC aaD Jy) (IntKind.wrap .i64 (aaU - (1:Int)))
      else
       Jy aaU)
    else none
   else none
  else
   Jy aaU
noncomputable def pO (N:Nat) (ab:(List QT)):Nat→((List QT)→Option aa)→(List QT)→Int→Option aa
 |0,_,_,_=>none
 |eT+1,m7,ao,bc=>
  bif (decide (bc<(List.length ab:Int))) then
   tF N ab (fun aeV=>
    bif aeV then
     pN N ab ao bc N (fun gT=>
      bif (decide ((0:Int)≤(0:Int))&&decide ((0:Int)≤gT)&&decide (gT≤(List.length ao:Int))) then
       bif (aM bc (List.length ab)) then
        bif (decide ((0:Int)≤gT)&&decide (gT≤(List.length ao:Int))&&decide ((List.length ao:Int)≤(List.length ao:Int))) then
         bif (decide ((List.length ([]:(List QT))+List.length (List.drop 0 (List.take (Int.toNat gT) ao)))*6≤4398046511104)) then
          bif (decide ((List.length (([]:(List QT))++(List.drop 0 (List.take (Int.toNat gT) ao)))+List.length [(List.getD ab (Int.toNat bc) ax)])*6≤4398046511104)) then
           bif (decide ((List.length ((([]:(List QT))++(List.drop 0 (List.take (Int.toNat gT) ao)))++[(List.getD ab (Int.toNat bc) ax)])+List.length (List.drop (Int.toNat gT) (List.take (Int.toNat (List.length ao:Int)) ao)))*6≤4398046511104)) then
            (pO N ab eT m7) (((([]:(List QT))++(List.drop 0 (List.take (Int.toNat gT) ao)))++[(List.getD ab (Int.toNat bc) ax)])++(List.drop (Int.toNat gT) (List.take (Int.toNat (List.length ao:Int)) ao))) (IntKind.wrap .i64 (bc+(1:Int)))
           else none
          else none
         else none
        else none
       else none
      else none) (List.length ao:Int)
    else
     m7 ao)
  else
   m7 ao
noncomputable def ak7 (N:Nat) (a0:(List QT)) (kf:(List Int)→Option aa):Option aa:=
 pO N a0 N (fun aAf=>
  kG aAf N kf ([]:(List Int)) (0:Int)) ([]:(List QT)) (0:Int)
noncomputable def pP (ab:(List Int)) (aj:Int):Nat→(Option aa)→(Bool→Option aa)→Int→Option aa
 |0,_,_,_=>none
 |eT+1,bu,bB,ak=>
  bif (decide (ak<(List.length ab:Int))) then
   bif (aM ak (List.length ab)) then
    bif ((List.getD ab (Int.toNat ak) (0:Int))==aj) then
     bB true
    else
     (pP ab aj eT bu bB) (IntKind.wrap .i64 (ak+(1:Int)))
   else none
  else
   bu
noncomputable def vf (N:Nat) (a0:(List Int)) (a1:Int) (kf:Bool→Option aa):Option aa:=
 pP a0 a1 N (kf false) kf (0:Int)
noncomputable def ak8 (N:Nat) (a0:(List QT)) (a1:Int) (a2:Int) (kf:Bool→Option aa):Option aa:=
 ve N a0 a1 (fun dI=>
  bif (decide (dI≥(0:Int))) then
   bif (aM dI (List.length a0)) then
    vf N (List.getD a0 (Int.toNat dI) ax).2.2.2.2.2 a2 kf
   else none
  else
   kf false)
noncomputable def S0 (N:Nat) (a0:(List QT)) (a1:Int) (a2:Int) (kf:Bool→Option aa):Option aa:=
 ve N a0 a1 (fun cJ=>
  ve N a0 a2 (fun cr=>
   tF N a0 (fun qC=>
    bif qC then
     bif (decide (cJ≥(0:Int))) then
      bif (decide (cr≥(0:Int))) then
       bif (cJ != cr) then
        bif (aM cJ (List.length a0)) then
         bif (aM cr (List.length a0)) then
          bif ((List.getD a0 (Int.toNat cJ) ax).2.1 != (List.getD a0 (Int.toNat cr) ax).2.1) then
           ak8 N a0 a1 a2 (fun aeA=>
            kf (!aeA))
          else
           kf false
         else none
        else none
       else
        kf false
      else
       kf false
     else
      kf false
    else
     kf false)))
noncomputable def ak9 (N:Nat) (a0:(List QT)) (a1:Int) (a2:Int) (kf:a8→Option aa):Option aa:=
 ve N a0 a1 (fun cJ=>
  ve N a0 a2 (fun cr=>
   tF N a0 (fun qC=>
    bif (!qC) then
     kf ((0:Int),(0:Int))
    else
     bif (decide (cJ<(0:Int))) then
      kf ((0:Int),(0:Int))
     else
      bif (decide (cr<(0:Int))) then
       kf ((0:Int),(0:Int))
      else
       bif (cJ==cr) then
        kf ((0:Int),(0:Int))
       else
        bif (aM cr (List.length a0)) then
         bif (aM cJ (List.length a0)) then
          bif (decide ((List.getD a0 (Int.toNat cr) ax).2.2.2.2.1<(List.getD a0 (Int.toNat cJ) ax).2.2.2.2.1)) then
           kf (a2,a1)
          else
           bif (aM cr (List.length a0)) then
            bif (aM cJ (List.length a0)) then
             bif ((List.getD a0 (Int.toNat cr) ax).2.2.2.2.1==(List.getD a0 (Int.toNat cJ) ax).2.2.2.2.1) then
              bif (aM cr (List.length a0)) then
               bif (aM cJ (List.length a0)) then
                aeU N (List.getD a0 (Int.toNat cr) ax) (List.getD a0 (Int.toNat cJ) ax) (fun aAg=>
                 bif aAg then
                  kf (a2,a1)
                 else
                  kf (a1,a2))
               else none
              else none
             else
              kf (a1,a2)
            else none
           else none
         else none
        else none)))
noncomputable def pQ (N:Nat) (self:(List QT)→(List Int)→((List a8)→Bool→Option aa)→Option aa) (ab:(List QT)) (aj:(List Int)):Nat→(Option aa)→((List a8)→Bool→Option aa)→Int→Option aa
 |0,_,_,_=>none
 |eT+1,S4,Jz,iG=>
  bif (decide (iG<(List.length aj:Int))) then
   bif (aM (0:Int) (List.length aj)) then
    bif (aM iG (List.length aj)) then
     S0 N ab (List.getD aj (Int.toNat (0:Int)) (0:Int)) (List.getD aj (Int.toNat iG) (0:Int)) (fun Fs=>
      bif (!Fs) then
       (pQ N self ab aj eT S4 Jz) (IntKind.wrap .i64 (iG+(1:Int)))
      else
       bif (decide ((0:Int)≤(1:Int))&&decide ((1:Int)≤iG)&&decide (iG≤(List.length aj:Int))) then
        bif (decide ((0:Int)≤(IntKind.wrap .i64 (iG+(1:Int))))&&decide ((IntKind.wrap .i64 (iG+(1:Int)))≤(List.length aj:Int))&&decide ((List.length aj:Int)≤(List.length aj:Int))) then
         bif (decide ((List.length ([]:(List Int))+List.length (List.drop (Int.toNat (1:Int)) (List.take (Int.toNat iG) aj)))*1≤4398046511104)) then
          bif (decide ((List.length (([]:(List Int))++(List.drop (Int.toNat (1:Int)) (List.take (Int.toNat iG) aj)))+List.length (List.drop (Int.toNat (IntKind.wrap .i64 (iG+(1:Int)))) (List.take (Int.toNat (List.length aj:Int)) aj)))*1≤4398046511104)) then
           self ab ((([]:(List Int))++(List.drop (Int.toNat (1:Int)) (List.take (Int.toNat iG) aj)))++(List.drop (Int.toNat (IntKind.wrap .i64 (iG+(1:Int)))) (List.take (Int.toNat (List.length aj:Int)) aj))) (fun as8 aAh=>
            bif aAh then
             bif (aM (0:Int) (List.length aj)) then
              bif (aM iG (List.length aj)) then
               ak9 N ab (List.getD aj (Int.toNat (0:Int)) (0:Int)) (List.getD aj (Int.toNat iG) (0:Int)) (fun H9=>
                bif (decide ((List.length [H9]+List.length as8)*2≤4398046511104)) then
                 Jz ([H9]++as8) true
                else none)
              else none
             else none
            else
             (pQ N self ab aj eT S4 Jz) (IntKind.wrap .i64 (iG+(1:Int))))
          else none
         else none
        else none
       else none)
    else none
   else none
  else
   S4
noncomputable def S5 (self:(List QT)→(List Int)→((List a8)→Bool→Option aa)→Option aa) (N:Nat) (a0:(List QT)) (a1:(List Int)) (kf:(List a8)→Bool→Option aa):Option aa:=
 bif ((List.length a1:Int)==(0:Int)) then
  kf ([]:(List a8)) true
 else
  pQ N self a0 a1 N (kf ([]:(List a8)) false) kf (1:Int)
noncomputable def S6:Nat→(List QT)→(List Int)→((List a8)→Bool→Option aa)→Option aa
 |0,_,_,_=>none
 |N+1,a0,a1,kf=>S5 (S6 N) N a0 a1 kf
noncomputable def S91 (N:Nat) (a0:(List QT)) (kf:(List a8)→Bool→Option aa):Option aa:=
 tF N a0 (fun Ff=>
  bif (!Ff) then
   kf ([]:(List a8)) false
  else
   bif ((Int.tmod (List.length a0:Int) (2:Int))==(1:Int)) then
    kf ([]:(List a8)) false
   else
    ak7 N a0 (fun oa=>
     S6 N a0 oa kf))
noncomputable def hY (N:Nat) (eI:(List QJ)) (jc:Int):Nat→(Option aa)→(Bool→Option aa)→Int→Option aa
 |0,_,_,_=>none
 |n_9+1,pR,lv,xC=>
  bif (aM jc (List.length eI)) then
   bif (decide (xC<(List.length (List.getD eI (Int.toNat jc) cg).2.2:Int))) then
    bif (aM jc (List.length eI)) then
     bif (aM xC (List.length (List.getD eI (Int.toNat jc) cg).2.2)) then
      gy N (List.getD (List.getD eI (Int.toNat jc) cg).2.2 (Int.toNat xC) (0:Int)) (1:Int) (99:Int) (fun S7=>
       bif (!S7) then
        lv false
       else
        bif (decide (xC>(0:Int))) then
         bif (aM jc (List.length eI)) then
          bif (aM (IntKind.wrap .i64 (xC - (1:Int))) (List.length (List.getD eI (Int.toNat jc) cg).2.2)) then
           bif (aM jc (List.length eI)) then
            bif (aM xC (List.length (List.getD eI (Int.toNat jc) cg).2.2)) then
             bif (decide ((List.getD (List.getD eI (Int.toNat jc) cg).2.2 (Int.toNat (IntKind.wrap .i64 (xC - (1:Int)))) (0:Int))≥(List.getD (List.getD eI (Int.toNat jc) cg).2.2 (Int.toNat xC) (0:Int)))) then
              lv false
             else
              (hY N eI jc n_9 pR lv) (IntKind.wrap .i64 (xC+(1:Int)))
            else none
           else none
          else none
         else none
        else
         (hY N eI jc n_9 pR lv) (IntKind.wrap .i64 (xC+(1:Int))))
     else none
    else none
   else
    pR
  else none
noncomputable def m8 (N:Nat) (ab:(List QJ)):Nat→(Option aa)→(Bool→Option aa)→Int→Option aa
 |0,_,_,_=>none
 |n_3+1,pS,fq,ao=>
  bif (decide (ao<(List.length ab:Int))) then
   bif (aM ao (List.length ab)) then
    gy N (List.getD ab (Int.toNat ao) cg).1 (1:Int) (99:Int) (fun NF=>
     bif (!NF) then
      fq false
     else
      bif (aM ao (List.length ab)) then
       gy N (List.getD ab (Int.toNat ao) cg).2.1 (1:Int) (99:Int) (fun FD=>
        bif (!FD) then
         fq false
        else
         bif (decide (ao>(0:Int))) then
          bif (aM (IntKind.wrap .i64 (ao - (1:Int))) (List.length ab)) then
           bif (aM ao (List.length ab)) then
            bif (decide ((List.getD ab (Int.toNat (IntKind.wrap .i64 (ao - (1:Int)))) cg).1≥(List.getD ab (Int.toNat ao) cg).1)) then
             fq false
            else
             hY N ab ao N ((m8 N ab n_3 pS fq) (IntKind.wrap .i64 (ao+(1:Int)))) fq (0:Int)
           else none
          else none
         else
          hY N ab ao N ((m8 N ab n_3 pS fq) (IntKind.wrap .i64 (ao+(1:Int)))) fq (0:Int))
      else none)
   else none
  else
   pS
noncomputable def aaV (N:Nat) (a0:(List QJ)) (kf:Bool→Option aa):Option aa:=
 m8 N a0 N (kf (decide ((List.length a0:Int)≤(10:Int)))) kf (0:Int)
noncomputable def aaW (N:Nat) (a0:(List QT)) (a1:QJ) (a2:a8) (kf:Bool→Option aa):Option aa:=
 ve N a0 a2.1 (fun qD=>
  ve N a0 a2.2 (fun oa=>
   bif (decide (qD≥(0:Int))) then
    bif (decide (oa≥(0:Int))) then
     bif (aM qD (List.length a0)) then
      bif ((List.getD a0 (Int.toNat qD) ax).2.1 != a1.2.1) then
       bif (aM oa (List.length a0)) then
        bif ((List.getD a0 (Int.toNat oa) ax).2.1 != a1.2.1) then
         vf N a1.2.2 a2.1 (fun aAi=>
          bif (!aAi) then
           vf N a1.2.2 a2.2 (fun aeW=>
            kf (!aeW))
          else
           kf false)
        else
         kf false
       else none
      else
       kf false
     else none
    else
     kf false
   else
    kf false))
noncomputable def m9 (N:Nat) (self:(List QT)→(List QJ)→(List a8)→(List Int)→((List Int)→Bool→Option aa)→Option aa) (ab:(List QT)) (aj:(List QJ)) (fA:(List a8)) (cK:(List Int)):Nat→(Option aa)→((List Int)→Bool→Option aa)→Int→Option aa
 |0,_,_,_=>none
 |RC+1,jd,ft,gA=>
  bif (decide (gA<(List.length aj:Int))) then
   bif (aM gA (List.length aj)) then
    vf N cK (List.getD aj (Int.toNat gA) cg).1 (fun aAj=>
     bif aAj then
      (m9 N self ab aj fA cK RC jd ft) (IntKind.wrap .i64 (gA+(1:Int)))
     else
      bif (aM gA (List.length aj)) then
       bif (aM (0:Int) (List.length fA)) then
        aaW N ab (List.getD aj (Int.toNat gA) cg) (List.getD fA (Int.toNat (0:Int)) cC) (fun rJ=>
         bif (!rJ) then
          (m9 N self ab aj fA cK RC jd ft) (IntKind.wrap .i64 (gA+(1:Int)))
         else
          bif (decide ((0:Int)≤(1:Int))&&decide ((1:Int)≤(List.length fA:Int))&&decide ((List.length fA:Int)≤(List.length fA:Int))) then
           bif (aM gA (List.length aj)) then
            bif (decide ((List.length ([]:(List Int))+List.length cK)*1≤4398046511104)) then
             bif (decide ((List.length (([]:(List Int))++cK)+List.length [(List.getD aj (Int.toNat gA) cg).1])*1≤4398046511104)) then
              self ab aj (List.drop (Int.toNat (1:Int)) (List.take (Int.toNat (List.length fA:Int)) fA)) ((([]:(List Int))++cK)++[(List.getD aj (Int.toNat gA) cg).1]) (fun as9 avi=>
               bif avi then
                bif (aM gA (List.length aj)) then
                 bif (decide ((List.length [(List.getD aj (Int.toNat gA) cg).1]+List.length as9)*1≤4398046511104)) then
                  ft ([(List.getD aj (Int.toNat gA) cg).1]++as9) true
                 else none
                else none
               else
                (m9 N self ab aj fA cK RC jd ft) (IntKind.wrap .i64 (gA+(1:Int))))
             else none
            else none
           else none
          else none)
       else none
      else none)
   else none
  else
   jd
noncomputable def S8 (self:(List QT)→(List QJ)→(List a8)→(List Int)→((List Int)→Bool→Option aa)→Option aa) (N:Nat) (a0:(List QT)) (a1:(List QJ)) (a2:(List a8)) (a3:(List Int)) (kf:(List Int)→Bool→Option aa):Option aa:=
 bif ((List.length a2:Int)==(0:Int)) then
  kf ([]:(List Int)) true
 else
  m9 N self a0 a1 a2 a3 N (kf ([]:(List Int)) false) kf (0:Int)
noncomputable def S9:Nat→(List QT)→(List QJ)→(List a8)→(List Int)→((List Int)→Bool→Option aa)→Option aa
 |0,_,_,_,_,_=>none
 |N+1,a0,a1,a2,a3,kf=>S8 (S9 N) N a0 a1 a2 a3 kf
noncomputable def S92 (N:Nat) (a0:(List QT)) (a1:(List QJ)) (a2:(List a8)) (kf:(List Int)→Bool→Option aa):Option aa:=
 aaV N a1 (fun jv=>
  bif (!jv) then
   kf ([]:(List Int)) false
  else
   tF N a0 (fun fR=>
    bif (!fR) then
     kf ([]:(List Int)) false
    else
     S9 N a0 a1 a2 ([]:(List Int)) kf))
noncomputable def S94 (N:Nat) (a0:QC) (kf:Bool→Option aa):Option aa:=
 kf (decide ((List.length a0.2.2.1:Int)>(0:Int)))
noncomputable def avj (N:Nat) (a0:(List QL)) (kf:Int→Option aa):Option aa:=
 bif ((List.length a0:Int)==(0:Int)) then
  kf (0:Int)
 else
  bif (aM (IntKind.wrap .i64 ((List.length a0:Int) - (1:Int))) (List.length a0)) then
   kf (List.getD a0 (Int.toNat (IntKind.wrap .i64 ((List.length a0:Int) - (1:Int)))) mf).2.2.2
  else none
noncomputable def aeX (N:Nat) (a0:Int) (a1:Int) (kf:Int→Option aa):Option aa:=
 gy N a1 (1:Int) (1000000000000:Int) (fun avg=>
  bif (!avg) then
   kf (0:Int)
  else
   bif (!decide (a1=0)) then
    bif (!decide (a1=0)) then
     kf (Int.tmod (IntKind.wrap .i64 ((Int.tmod a0 a1)+a1)) a1)
    else none
   else none)
noncomputable def pT (N:Nat) (ab:(List Int)):Nat→(Int→Option aa)→Int→Int→Option aa
 |0,_,_,_=>none
 |eT+1,a6,ao,bc=>
  bif (decide (bc<(List.length ab:Int))) then
   bif (aM bc (List.length ab)) then
    aeX N (List.getD ab (Int.toNat bc) (0:Int)) (2147483647:Int) (fun aeY=>
     (pT N ab eT a6) (Int.tmod (IntKind.wrap .i64 ((IntKind.wrap .i64 ((IntKind.wrap .i64 (ao*(1000003:Int)))+aeY))+(13:Int))) (2147483647:Int)) (IntKind.wrap .i64 (bc+(1:Int))))
   else none
  else
   a6 ao
noncomputable def ak' (N:Nat) (a0:(List Int)) (kf:Int→Option aa):Option aa:=
 pT N a0 N kf (11:Int) (0:Int)
noncomputable def Ta (N:Nat) (a0:Int) (a1:QL) (kf:Int→Option aa):Option aa:=
 ak' N [a0,a1.1,a1.2.1,a1.2.2.1] kf
noncomputable def pU (N:Nat) (ab:(List QL)):Nat→(Option aa)→(Bool→Option aa)→Int→Int→Option aa
 |0,_,_,_,_=>none
 |eT+1,cU,fo,ao,bc=>
  bif (decide (bc<(List.length ab:Int))) then
   bif (decide ((List.length ab:Int)≤(200:Int))) then
    bif (aM bc (List.length ab)) then
     Ta N ao (List.getD ab (Int.toNat bc) mf) (fun gB=>
      bif ((List.getD ab (Int.toNat bc) mf).1 != (IntKind.wrap .i64 (bc+(1:Int)))) then
       fo false
      else
       gy N (List.getD ab (Int.toNat bc) mf).2.1 (1:Int) (9:Int) (fun NY=>
        bif (!NY) then
         fo false
        else
         gy N (List.getD ab (Int.toNat bc) mf).2.2.1 (0:Int) (99:Int) (fun NZ=>
          bif (!NZ) then
           fo false
          else
           bif ((List.getD ab (Int.toNat bc) mf).2.2.2 != gB) then
            fo false
           else
            (pU N ab eT cU fo) gB (IntKind.wrap .i64 (bc+(1:Int))))))
    else none
   else
    cU
  else
   cU
noncomputable def aeZ (N:Nat) (a0:(List QL)) (kf:Bool→Option aa):Option aa:=
 pU N a0 N (kf (decide ((List.length a0:Int)≤(200:Int)))) kf (0:Int) (0:Int)
noncomputable def ala (N:Nat) (a0:(List QL)) (a1:Int) (a2:Int) (kf:(List QL)→Bool→Option aa):Option aa:=
 avj N a0 (fun aet=>
  Ta N aet ((IntKind.wrap .i64 ((List.length a0:Int)+(1:Int))),(a1,(a2,(0:Int)))) (fun xy=>
   bif (decide ((List.length ([]:(List QL))+List.length a0)*4≤4398046511104)) then
    bif (decide ((List.length (([]:(List QL))++a0)+List.length [((IntKind.wrap .i64 ((List.length a0:Int)+(1:Int))),(a1,(a2,xy)))])*4≤4398046511104)) then
     aeZ N ((([]:(List QL))++a0)++[((IntKind.wrap .i64 ((List.length a0:Int)+(1:Int))),(a1,(a2,xy)))]) (fun aeQ=>
      bif (!aeQ) then
       bif (decide ((List.length ([]:(List QL))+List.length a0)*4≤4398046511104)) then
        kf (([]:(List QL))++a0) false
       else none
      else
       kf ((([]:(List QL))++a0)++[((IntKind.wrap .i64 ((List.length a0:Int)+(1:Int))),(a1,(a2,xy)))]) true)
    else none
   else none))
noncomputable def pV (N:Nat) (ab:(List QT)):Nat→(Int→Option aa)→Int→Int→Option aa
 |0,_,_,_=>none
 |eT+1,a6,ao,bc=>
  bif (decide (bc<(List.length ab:Int))) then
   tF N ab (fun ae0=>
    bif ae0 then
     bif (aM bc (List.length ab)) then
      (pV N ab eT a6) (IntKind.wrap .i64 (ao+(List.getD ab (Int.toNat bc) ax).2.2.1)) (IntKind.wrap .i64 (bc+(1:Int)))
     else none
    else
     a6 ao)
  else
   a6 ao
noncomputable def alb (N:Nat) (a0:(List QT)) (kf:Int→Option aa):Option aa:=
 pV N a0 N kf (0:Int) (0:Int)
noncomputable def pW (N:Nat) (ab:(List QT)) (aj:(List a8)):Nat→((List Int)→Option aa)→(Bool→Option aa)→(List Int)→Int→Option aa
 |0,_,_,_,_=>none
 |mG+1,bR,ke,ak,fL=>
  bif (decide (fL<(List.length aj:Int))) then
   bif (aM fL (List.length aj)) then
    bif (aM fL (List.length aj)) then
     S0 N ab (List.getD aj (Int.toNat fL) cC).1 (List.getD aj (Int.toNat fL) cC).2 (fun N0=>
      bif (!N0) then
       ke false
      else
       bif (aM fL (List.length aj)) then
        vf N ak (List.getD aj (Int.toNat fL) cC).1 (fun N1=>
         bif N1 then
          ke false
         else
          bif (aM fL (List.length aj)) then
           vf N ak (List.getD aj (Int.toNat fL) cC).2 (fun N3=>
            bif N3 then
             ke false
            else
             bif (aM fL (List.length aj)) then
              bif (aM fL (List.length aj)) then
               bif (decide ((List.length ak+List.length [(List.getD aj (Int.toNat fL) cC).1,(List.getD aj (Int.toNat fL) cC).2])*1≤4398046511104)) then
                (pW N ab aj mG bR ke) (ak++[(List.getD aj (Int.toNat fL) cC).1,(List.getD aj (Int.toNat fL) cC).2]) (IntKind.wrap .i64 (fL+(1:Int)))
               else none
              else none
             else none)
          else none)
       else none)
    else none
   else none
  else
   bR ak
noncomputable def alc (N:Nat) (a0:(List QT)) (a1:(List a8)) (kf:Bool→Option aa):Option aa:=
 pW N a0 a1 N (fun aAk=>
  tF N a0 (fun avk=>
   bif avk then
    kf ((List.length aAk:Int)==(List.length a0:Int))
   else
    kf false)) kf ([]:(List Int)) (0:Int)
noncomputable def pX (ab:(List QJ)) (aj:Int):Nat→(Option aa)→(Int→Option aa)→Int→Option aa
 |0,_,_,_=>none
 |eT+1,bu,bB,ak=>
  bif (decide (ak<(List.length ab:Int))) then
   bif (aM ak (List.length ab)) then
    bif ((List.getD ab (Int.toNat ak) cg).1==aj) then
     bB ak
    else
     (pX ab aj eT bu bB) (IntKind.wrap .i64 (ak+(1:Int)))
   else none
  else
   bu
noncomputable def FE (N:Nat) (a0:(List QJ)) (a1:Int) (kf:Int→Option aa):Option aa:=
 pX a0 a1 N (kf (-1:Int)) kf (0:Int)
noncomputable def pY (N:Nat) (AH:(List QT)) (ju:(List QJ)) (jP:(List a8)) (iF:(List Int)):Nat→(Option aa)→(Bool→Option aa)→Int→Option aa
 |0,_,_,_=>none
 |n_7+1,jd,ft,FF=>
  bif (decide (FF<(List.length jP:Int))) then
   bif (aM FF (List.length iF)) then
    FE N ju (List.getD iF (Int.toNat FF) (0:Int)) (fun FH=>
     bif (decide (FH<(0:Int))) then
      ft false
     else
      bif (decide ((0:Int)≤(0:Int))&&decide ((0:Int)≤FF)&&decide (FF≤(List.length iF:Int))) then
       bif (aM FF (List.length iF)) then
        vf N (List.drop (Int.toNat (0:Int)) (List.take (Int.toNat FF) iF)) (List.getD iF (Int.toNat FF) (0:Int)) (fun ae1=>
         bif ae1 then
          ft false
         else
          bif (aM FH (List.length ju)) then
           bif (aM FF (List.length jP)) then
            aaW N AH (List.getD ju (Int.toNat FH) cg) (List.getD jP (Int.toNat FF) cC) (fun Tb=>
             bif (!Tb) then
              ft false
             else
              (pY N AH ju jP iF n_7 jd ft) (IntKind.wrap .i64 (FF+(1:Int))))
           else none
          else none)
       else none
      else none)
   else none
  else
   jd
noncomputable def ald (N:Nat) (a0:(List QT)) (a1:(List QJ)) (a2:(List a8)) (a3:(List Int)) (kf:Bool→Option aa):Option aa:=
 bif ((List.length a3:Int) != (List.length a2:Int)) then
  kf false
 else
  aaV N a1 (fun aE=>
   bif (!aE) then
    kf false
   else
    pY N a0 a1 a2 a3 N (kf true) kf (0:Int))
noncomputable def N4 (N:Nat) (a0:QB) (kf:Bool→Option aa):Option aa:=
 gy N a0.1 (1:Int) (99:Int) (fun Ff=>
  bif Ff then
   gy N a0.2.1 (0:Int) (100:Int) (fun au2=>
    bif au2 then
     gy N a0.2.2 (0:Int) (100:Int) (fun Fl=>
      bif Fl then
       kf (a0.2.1 != a0.2.2)
      else
       kf false)
    else
     kf false)
  else
   kf false)
noncomputable def na (N:Nat) (lx:QC) (FJ:QB):Nat→(Option aa)→(Bool→Option aa)→Int→Option aa
 |0,_,_,_=>none
 |SL+1,pZ,ly,og=>
  bif (decide (og<(List.length lx.2.2.2.2.1:Int))) then
   bif (aM og (List.length lx.2.2.2.2.1)) then
    bif (!((decide (((List.getD lx.2.2.2.2.1 (Int.toNat og) fu).1:Int)=FJ.1))&&((decide (((List.getD lx.2.2.2.2.1 (Int.toNat og) fu).2.1:Int)=FJ.2.1))&&(decide (((List.getD lx.2.2.2.2.1 (Int.toNat og) fu).2.2:Int)=FJ.2.2))))) then
     bif (aM og (List.length lx.2.2.2.2.1)) then
      N4 N (List.getD lx.2.2.2.2.1 (Int.toNat og) fu) (fun Tc=>
       bif (!Tc) then
        ly false
       else
        bif (aM og (List.length lx.2.2.2.2.1)) then
         bif (aM og (List.length lx.2.2.2.1)) then
          bif ((List.getD lx.2.2.2.2.1 (Int.toNat og) fu).1 != (List.getD lx.2.2.2.1 (Int.toNat og) (0:Int))) then
           ly false
          else
           (na N lx FJ SL pZ ly) (IntKind.wrap .i64 (og+(1:Int)))
         else none
        else none)
     else none
    else
     (na N lx FJ SL pZ ly) (IntKind.wrap .i64 (og+(1:Int)))
   else none
  else
   pZ
noncomputable def DI (N:Nat) (a0:QC) (kf:Bool→Option aa):Option aa:=
 na N a0 ((0:Int),((0:Int),(0:Int))) N (kf true) kf (0:Int)
noncomputable def Td (N:Nat) (a0:QC) (kf:Bool→Option aa):Option aa:=
 tF N a0.1 (fun Fe=>
  bif (!Fe) then
   kf false
  else
   aaV N a0.2.1 (fun NM=>
    bif (!NM) then
     kf false
    else
     aeZ N a0.2.2.2.2.2.1 (fun Fm=>
      bif (!Fm) then
       kf false
      else
       bif ((List.length a0.2.2.2.1:Int) != (List.length a0.2.2.1:Int)) then
        kf false
       else
        bif ((List.length a0.2.2.2.2.1:Int) != (List.length a0.2.2.1:Int)) then
         kf false
        else
         gy N a0.2.2.2.2.2.2 (0:Int) (1000:Int) (fun aAl=>
          bif (!aAl) then
           kf false
          else
           alb N a0.1 (fun aAm=>
            bif (aAm != a0.2.2.2.2.2.2) then
             kf false
            else
             bif (decide ((List.length a0.2.2.1:Int)>(0:Int))) then
              alc N a0.1 a0.2.2.1 (fun aAn=>
               bif (!aAn) then
                kf false
               else
                ald N a0.1 a0.2.1 a0.2.2.1 a0.2.2.2.1 (fun aAo=>
                 bif (!aAo) then
                  kf false
                 else
                  DI N a0 kf))
             else
              DI N a0 kf)))))
noncomputable def S93 (N:Nat) (a0:QC) (a1:QC) (a2:Bool) (a3:Int) (a4:Int) (kf:QC→Bool→Option aa):Option aa:=
 ala N a0.2.2.2.2.2.1 a3 a4 (fun Xj xy=>
  bif (!a2) then
   SY N a0 (fun CL=>
    kf CL false)
  else
   bif (!xy) then
    SY N a0 (fun CL=>
     kf CL false)
   else
    Td N a0 (fun aAp=>
     bif (!aAp) then
      SY N a0 (fun CL=>
       kf CL false)
     else
      Td N (a1.1,(a1.2.1,(a1.2.2.1,(a1.2.2.2.1,(a1.2.2.2.2.1,(Xj,a1.2.2.2.2.2.2)))))) (fun aAq=>
       bif (!aAq) then
        SY N a0 (fun aAr=>
         kf aAr false)
       else
        kf (a1.1,(a1.2.1,(a1.2.2.1,(a1.2.2.2.1,(a1.2.2.2.2.1,(Xj,a1.2.2.2.2.2.2)))))) true)))
noncomputable def S21 (N:Nat) (a0:QC) (kf:QC→Bool→Option aa):Option aa:=
 SY N a0 (fun dI=>
  S91 N a0.1 (fun cr Fl=>
   S92 N a0.1 a0.2.1 cr (fun Ic gB=>
    bif (decide ((List.length cr:Int)=(List.length cr:Int))&&decide ((0:Int)≤(List.length cr:Int))&&decide ((List.length cr:Int)≤1099511627776)) then
     bif Fl then
      bif gB then
       S94 N a0 (fun aAs=>
        bif (!aAs) then
         S93 N a0 (dI.1,(dI.2.1,(cr,(Ic,((List.replicate (Int.toNat (List.length cr:Int)) ((0:Int),((0:Int),(0:Int)))),dI.2.2.2.2.2))))) (decide ((List.length a0.1:Int)>(0:Int))) (3:Int) (0:Int) kf
        else
         S93 N a0 (dI.1,(dI.2.1,(cr,(Ic,((List.replicate (Int.toNat (List.length cr:Int)) ((0:Int),((0:Int),(0:Int)))),dI.2.2.2.2.2))))) false (3:Int) (0:Int) kf)
      else
       S93 N a0 (dI.1,(dI.2.1,(cr,(Ic,((List.replicate (Int.toNat (List.length cr:Int)) ((0:Int),((0:Int),(0:Int)))),dI.2.2.2.2.2))))) false (3:Int) (0:Int) kf
     else
      S93 N a0 (dI.1,(dI.2.1,(cr,(Ic,((List.replicate (Int.toNat (List.length cr:Int)) ((0:Int),((0:Int),(0:Int)))),dI.2.2.2.2.2))))) false (3:Int) (0:Int) kf
    else none)))
noncomputable def p5 (ab:(List Int)) (aj:(List Int)):Nat→(Option aa)→(Bool→Option aa)→Int→Option aa
 |0,_,_,_=>none
 |eT+1,AM,AN,ak=>
  bif (decide (ak<(List.length ab:Int))) then
   bif (aM ak (List.length ab)) then
    bif (aM ak (List.length aj)) then
     bif ((List.getD ab (Int.toNat ak) (0:Int)) != (List.getD aj (Int.toNat ak) (0:Int))) then
      AN false
     else
      (p5 ab aj eT AM AN) (IntKind.wrap .i64 (ak+(1:Int)))
    else none
   else none
  else
   AM
noncomputable def aaX (N:Nat) (a0:(List Int)) (a1:(List Int)) (kf:Bool→Option aa):Option aa:=
 bif ((List.length a0:Int) != (List.length a1:Int)) then
  kf false
 else
  p5 a0 a1 N (kf true) kf (0:Int)
noncomputable def ae2 (N:Nat) (a0:QT) (a1:QT) (kf:Bool→Option aa):Option aa:=
 bif (a0.1 != a1.1) then
  kf false
 else
  bif (a0.2.1 != a1.2.1) then
   kf false
  else
   bif (a0.2.2.1 != a1.2.2.1) then
    kf false
   else
    bif (a0.2.2.2.1 != a1.2.2.2.1) then
     kf false
    else
     bif (a0.2.2.2.2.1 != a1.2.2.2.2.1) then
      kf false
     else
      aaX N a0.2.2.2.2.2 a1.2.2.2.2.2 (fun aAt=>
       bif (!aAt) then
        kf false
       else
        kf true)
noncomputable def p6 (N:Nat) (ab:(List QT)) (aj:(List QT)):Nat→(Option aa)→(Bool→Option aa)→Int→Option aa
 |0,_,_,_=>none
 |eT+1,bS,bT,ak=>
  bif (decide (ak<(List.length ab:Int))) then
   bif (aM ak (List.length ab)) then
    bif (aM ak (List.length aj)) then
     ae2 N (List.getD ab (Int.toNat ak) ax) (List.getD aj (Int.toNat ak) ax) (fun gn=>
      bif (!gn) then
       bT false
      else
       (p6 N ab aj eT bS bT) (IntKind.wrap .i64 (ak+(1:Int))))
    else none
   else none
  else
   bS
noncomputable def ale (N:Nat) (a0:(List QT)) (a1:(List QT)) (kf:Bool→Option aa):Option aa:=
 bif ((List.length a0:Int) != (List.length a1:Int)) then
  kf false
 else
  p6 N a0 a1 N (kf true) kf (0:Int)
noncomputable def ae3 (N:Nat) (a0:QJ) (a1:QJ) (kf:Bool→Option aa):Option aa:=
 bif (a0.1 != a1.1) then
  kf false
 else
  bif (a0.2.1 != a1.2.1) then
   kf false
  else
   aaX N a0.2.2 a1.2.2 (fun Xj=>
    bif (!Xj) then
     kf false
    else
     kf true)
noncomputable def p7 (N:Nat) (ab:(List QJ)) (aj:(List QJ)):Nat→(Option aa)→(Bool→Option aa)→Int→Option aa
 |0,_,_,_=>none
 |eT+1,bS,bT,ak=>
  bif (decide (ak<(List.length ab:Int))) then
   bif (aM ak (List.length ab)) then
    bif (aM ak (List.length aj)) then
     ae3 N (List.getD ab (Int.toNat ak) cg) (List.getD aj (Int.toNat ak) cg) (fun gn=>
      bif (!gn) then
       bT false
      else
       (p7 N ab aj eT bS bT) (IntKind.wrap .i64 (ak+(1:Int))))
    else none
   else none
  else
   bS
noncomputable def alf (N:Nat) (a0:(List QJ)) (a1:(List QJ)) (kf:Bool→Option aa):Option aa:=
 bif ((List.length a0:Int) != (List.length a1:Int)) then
  kf false
 else
  p7 N a0 a1 N (kf true) kf (0:Int)
noncomputable def ae4 (N:Nat) (a0:a8) (a1:a8) (kf:Bool→Option aa):Option aa:=
 bif (a0.1 != a1.1) then
  kf false
 else
  bif (a0.2 != a1.2) then
   kf false
  else
   kf true
noncomputable def p8 (N:Nat) (ab:(List a8)) (aj:(List a8)):Nat→(Option aa)→(Bool→Option aa)→Int→Option aa
 |0,_,_,_=>none
 |eT+1,bS,bT,ak=>
  bif (decide (ak<(List.length ab:Int))) then
   bif (aM ak (List.length ab)) then
    bif (aM ak (List.length aj)) then
     ae4 N (List.getD ab (Int.toNat ak) cC) (List.getD aj (Int.toNat ak) cC) (fun gn=>
      bif (!gn) then
       bT false
      else
       (p8 N ab aj eT bS bT) (IntKind.wrap .i64 (ak+(1:Int))))
    else none
   else none
  else
   bS
noncomputable def alg (N:Nat) (a0:(List a8)) (a1:(List a8)) (kf:Bool→Option aa):Option aa:=
 bif ((List.length a0:Int) != (List.length a1:Int)) then
  kf false
 else
  p8 N a0 a1 N (kf true) kf (0:Int)
noncomputable def ae5 (N:Nat) (a0:QB) (a1:QB) (kf:Bool→Option aa):Option aa:=
 bif (a0.1 != a1.1) then
  kf false
 else
  bif (a0.2.1 != a1.2.1) then
   kf false
  else
   bif (a0.2.2 != a1.2.2) then
    kf false
   else
    kf true
noncomputable def p9 (N:Nat) (ab:(List QB)) (aj:(List QB)):Nat→(Option aa)→(Bool→Option aa)→Int→Option aa
 |0,_,_,_=>none
 |eT+1,bS,bT,ak=>
  bif (decide (ak<(List.length ab:Int))) then
   bif (aM ak (List.length ab)) then
    bif (aM ak (List.length aj)) then
     ae5 N (List.getD ab (Int.toNat ak) fu) (List.getD aj (Int.toNat ak) fu) (fun gn=>
      bif (!gn) then
       bT false
      else
       (p9 N ab aj eT bS bT) (IntKind.wrap .i64 (ak+(1:Int))))
    else none
   else none
  else
   bS
noncomputable def alh (N:Nat) (a0:(List QB)) (a1:(List QB)) (kf:Bool→Option aa):Option aa:=
 bif ((List.length a0:Int) != (List.length a1:Int)) then
  kf false
 else
  p9 N a0 a1 N (kf true) kf (0:Int)
noncomputable def ae6 (N:Nat) (a0:QL) (a1:QL) (kf:Bool→Option aa):Option aa:=
 bif (a0.1 != a1.1) then
  kf false
 else
  bif (a0.2.1 != a1.2.1) then
   kf false
  else
   bif (a0.2.2.1 != a1.2.2.1) then
    kf false
   else
    bif (a0.2.2.2 != a1.2.2.2) then
     kf false
    else
     kf true
noncomputable def qa (N:Nat) (ab:(List QL)) (aj:(List QL)):Nat→(Option aa)→(Bool→Option aa)→Int→Option aa
 |0,_,_,_=>none
 |eT+1,bS,bT,ak=>
  bif (decide (ak<(List.length ab:Int))) then
   bif (aM ak (List.length ab)) then
    bif (aM ak (List.length aj)) then
     ae6 N (List.getD ab (Int.toNat ak) mf) (List.getD aj (Int.toNat ak) mf) (fun gn=>
      bif (!gn) then
       bT false
      else
       (qa N ab aj eT bS bT) (IntKind.wrap .i64 (ak+(1:Int))))
    else none
   else none
  else
   bS
noncomputable def ali (N:Nat) (a0:(List QL)) (a1:(List QL)) (kf:Bool→Option aa):Option aa:=
 bif ((List.length a0:Int) != (List.length a1:Int)) then
  kf false
 else
  qa N a0 a1 N (kf true) kf (0:Int)
noncomputable def L24 (N:Nat) (a0:QC) (a1:QC) (kf:Bool→Option aa):Option aa:=
 ale N a0.1 a1.1 (fun jv=>
  bif (!jv) then
   kf false
  else
   alf N a0.2.1 a1.2.1 (fun Fo=>
    bif (!Fo) then
     kf false
    else
     alg N a0.2.2.1 a1.2.2.1 (fun aeP=>
      bif (!aeP) then
       kf false
      else
       aaX N a0.2.2.2.1 a1.2.2.2.1 (fun NJ=>
        bif (!NJ) then
         kf false
        else
         alh N a0.2.2.2.2.1 a1.2.2.2.2.1 (fun NO=>
          bif (!NO) then
           kf false
          else
           ali N a0.2.2.2.2.2.1 a1.2.2.2.2.2.1 (fun aeF=>
            bif (!aeF) then
             kf false
            else
             bif (a0.2.2.2.2.2.2 != a1.2.2.2.2.2.2) then
              kf false
             else
              kf true))))))
noncomputable def sO :Nat→((List Int)→Int→Option aa)→(List Int)→Int→Int→Option aa
 |0,_,_,_,_=>none
 |eT+1,bu,ab,aj,ak=>
  bif (decide (ak<(List.length ab:Int))) then
   bif (aM ak (List.length ab)) then
    (sO eT bu) (List.set ab (Int.toNat ak) aj) (IntKind.wrap .i64 (aj+(1:Int))) (IntKind.wrap .i64 (ak+(1:Int)))
   else none
  else
   bu ab aj
noncomputable def ae7 (N:Nat) (a0:(List Int)) (a1:Int) (kf:Int→(List Int)→Option aa):Option aa:=
 sO N (fun aBs aBt=>
  kf aBt aBs) a0 a1 (0:Int)
noncomputable def sQ (N:Nat):Nat→((List QT)→Int→Option aa)→(List QT)→Int→Int→Option aa
 |0,_,_,_,_=>none
 |eT+1,Xk,ab,aj,ak=>
  bif (decide (ak<(List.length ab:Int))) then
   bif (aM ak (List.length ab)) then
    share (List.set ab (Int.toNat ak) (aj,(List.getD ab (Int.toNat ak) ax).2)) (fun jw=>
     bif (aM ak (List.length jw)) then
      share (List.set jw (Int.toNat ak) ((List.getD jw (Int.toNat ak) ax).1,((IntKind.wrap .i64 (aj+(1:Int))),(List.getD jw (Int.toNat ak) ax).2.2))) (fun iH=>
       bif (aM ak (List.length iH)) then
        share (List.set iH (Int.toNat ak) ((List.getD iH (Int.toNat ak) ax).1,((List.getD iH (Int.toNat ak) ax).2.1,((IntKind.wrap .i64 ((IntKind.wrap .i64 (aj+(1:Int)))+(1:Int))),(List.getD iH (Int.toNat ak) ax).2.2.2)))) (fun oh=>
         bif (aM ak (List.length oh)) then
          share (List.set oh (Int.toNat ak) ((List.getD oh (Int.toNat ak) ax).1,((List.getD oh (Int.toNat ak) ax).2.1,((List.getD oh (Int.toNat ak) ax).2.2.1,((IntKind.wrap .i64 ((IntKind.wrap .i64 ((IntKind.wrap .i64 (aj+(1:Int)))+(1:Int)))+(1:Int))),(List.getD oh (Int.toNat ak) ax).2.2.2.2))))) (fun FK=>
           bif (aM ak (List.length FK)) then
            share (List.set FK (Int.toNat ak) ((List.getD FK (Int.toNat ak) ax).1,((List.getD FK (Int.toNat ak) ax).2.1,((List.getD FK (Int.toNat ak) ax).2.2.1,((List.getD FK (Int.toNat ak) ax).2.2.2.1,((IntKind.wrap .i64 ((IntKind.wrap .i64 ((IntKind.wrap .i64 ((IntKind.wrap .i64 (aj+(1:Int)))+(1:Int)))+(1:Int)))+(1:Int))),(List.getD FK (Int.toNat ak) ax).2.2.2.2.2)))))) (fun N5=>
             bif (aM ak (List.length N5)) then
              ae7 N (List.getD N5 (Int.toNat ak) ax).2.2.2.2.2 (IntKind.wrap .i64 ((IntKind.wrap .i64 ((IntKind.wrap .i64 ((IntKind.wrap .i64 ((IntKind.wrap .i64 (aj+(1:Int)))+(1:Int)))+(1:Int)))+(1:Int)))+(1:Int))) (fun avl FL=>
               (sQ N eT Xk) (List.set N5 (Int.toNat ak) ((List.getD N5 (Int.toNat ak) ax).1,((List.getD N5 (Int.toNat ak) ax).2.1,((List.getD N5 (Int.toNat ak) ax).2.2.1,((List.getD N5 (Int.toNat ak) ax).2.2.2.1,((List.getD N5 (Int.toNat ak) ax).2.2.2.2.1,FL)))))) avl (IntKind.wrap .i64 (ak+(1:Int))))
             else none)
           else none)
         else none)
       else none)
     else none)
   else none
  else
   Xk ab aj
noncomputable def avm (N:Nat) (a0:(List QT)) (a1:Int) (kf:Int→(List QT)→Option aa):Option aa:=
 sQ N N (fun aAu aAv=>
  kf aAv aAu) a0 a1 (0:Int)
noncomputable def sR (N:Nat):Nat→((List QJ)→Int→Option aa)→(List QJ)→Int→Int→Option aa
 |0,_,_,_,_=>none
 |eT+1,gl,ab,aj,ak=>
  bif (decide (ak<(List.length ab:Int))) then
   bif (aM ak (List.length ab)) then
    share (List.set ab (Int.toNat ak) (aj,(List.getD ab (Int.toNat ak) cg).2)) (fun jw=>
     bif (aM ak (List.length jw)) then
      share (List.set jw (Int.toNat ak) ((List.getD jw (Int.toNat ak) cg).1,((IntKind.wrap .i64 (aj+(1:Int))),(List.getD jw (Int.toNat ak) cg).2.2))) (fun iH=>
       bif (aM ak (List.length iH)) then
        ae7 N (List.getD iH (Int.toNat ak) cg).2.2 (IntKind.wrap .i64 ((IntKind.wrap .i64 (aj+(1:Int)))+(1:Int))) (fun N6 auW=>
         (sR N eT gl) (List.set iH (Int.toNat ak) ((List.getD iH (Int.toNat ak) cg).1,((List.getD iH (Int.toNat ak) cg).2.1,auW))) N6 (IntKind.wrap .i64 (ak+(1:Int))))
       else none)
     else none)
   else none
  else
   gl ab aj
noncomputable def avn (N:Nat) (a0:(List QJ)) (a1:Int) (kf:Int→(List QJ)→Option aa):Option aa:=
 sR N N (fun FL N7=>
  kf N7 FL) a0 a1 (0:Int)
noncomputable def sS :Nat→((List a8)→Int→Option aa)→(List a8)→Int→Int→Option aa
 |0,_,_,_,_=>none
 |eT+1,dH,ab,aj,ak=>
  bif (decide (ak<(List.length ab:Int))) then
   bif (aM ak (List.length ab)) then
    share (List.set ab (Int.toNat ak) (aj,(List.getD ab (Int.toNat ak) cC).2)) (fun jw=>
     bif (aM ak (List.length jw)) then
      share (List.set jw (Int.toNat ak) ((List.getD jw (Int.toNat ak) cC).1,(IntKind.wrap .i64 (aj+(1:Int))))) (fun iH=>
       (sS eT dH) iH (IntKind.wrap .i64 ((IntKind.wrap .i64 (aj+(1:Int)))+(1:Int))) (IntKind.wrap .i64 (ak+(1:Int))))
     else none)
   else none
  else
   dH ab aj
noncomputable def avo (N:Nat) (a0:(List a8)) (a1:Int) (kf:Int→(List a8)→Option aa):Option aa:=
 sS N (fun aBu aAw=>
  kf aAw aBu) a0 a1 (0:Int)
noncomputable def sU :Nat→((List QB)→Int→Option aa)→(List QB)→Int→Int→Option aa
 |0,_,_,_,_=>none
 |eT+1,ae8,ab,aj,ak=>
  bif (decide (ak<(List.length ab:Int))) then
   bif (aM ak (List.length ab)) then
    share (List.set ab (Int.toNat ak) (aj,(List.getD ab (Int.toNat ak) fu).2)) (fun jw=>
     bif (aM ak (List.length jw)) then
      share (List.set jw (Int.toNat ak) ((List.getD jw (Int.toNat ak) fu).1,((IntKind.wrap .i64 (aj+(1:Int))),(List.getD jw (Int.toNat ak) fu).2.2))) (fun iH=>
       bif (aM ak (List.length iH)) then
        share (List.set iH (Int.toNat ak) ((List.getD iH (Int.toNat ak) fu).1,((List.getD iH (Int.toNat ak) fu).2.1,(IntKind.wrap .i64 ((IntKind.wrap .i64 (aj+(1:Int)))+(1:Int)))))) (fun oh=>
         (sU eT ae8) oh (IntKind.wrap .i64 ((IntKind.wrap .i64 ((IntKind.wrap .i64 (aj+(1:Int)))+(1:Int)))+(1:Int))) (IntKind.wrap .i64 (ak+(1:Int))))
       else none)
     else none)
   else none
  else
   ae8 ab aj
noncomputable def avp (N:Nat) (a0:(List QB)) (a1:Int) (kf:Int→(List QB)→Option aa):Option aa:=
 sU N (fun aAx aAy=>
  kf aAy aAx) a0 a1 (0:Int)
noncomputable def sV :Nat→((List QL)→Int→Option aa)→(List QL)→Int→Int→Option aa
 |0,_,_,_,_=>none
 |eT+1,gl,ab,aj,ak=>
  bif (decide (ak<(List.length ab:Int))) then
   bif (aM ak (List.length ab)) then
    share (List.set ab (Int.toNat ak) (aj,(List.getD ab (Int.toNat ak) mf).2)) (fun jw=>
     bif (aM ak (List.length jw)) then
      share (List.set jw (Int.toNat ak) ((List.getD jw (Int.toNat ak) mf).1,((IntKind.wrap .i64 (aj+(1:Int))),(List.getD jw (Int.toNat ak) mf).2.2))) (fun iH=>
       bif (aM ak (List.length iH)) then
        share (List.set iH (Int.toNat ak) ((List.getD iH (Int.toNat ak) mf).1,((List.getD iH (Int.toNat ak) mf).2.1,((IntKind.wrap .i64 ((IntKind.wrap .i64 (aj+(1:Int)))+(1:Int))),(List.getD iH (Int.toNat ak) mf).2.2.2)))) (fun oh=>
         bif (aM ak (List.length oh)) then
          share (List.set oh (Int.toNat ak) ((List.getD oh (Int.toNat ak) mf).1,((List.getD oh (Int.toNat ak) mf).2.1,((List.getD oh (Int.toNat ak) mf).2.2.1,(IntKind.wrap .i64 ((IntKind.wrap .i64 ((IntKind.wrap .i64 (aj+(1:Int)))+(1:Int)))+(1:Int))))))) (fun FK=>
           (sV eT gl) FK (IntKind.wrap .i64 ((IntKind.wrap .i64 ((IntKind.wrap .i64 ((IntKind.wrap .i64 (aj+(1:Int)))+(1:Int)))+(1:Int)))+(1:Int))) (IntKind.wrap .i64 (ak+(1:Int))))
         else none)
       else none)
     else none)
   else none
  else
   gl ab aj
noncomputable def avq (N:Nat) (a0:(List QL)) (a1:Int) (kf:Int→(List QL)→Option aa):Option aa:=
 sV N (fun FL N7=>
  kf N7 FL) a0 a1 (0:Int)
noncomputable def L25 (N:Nat) (a0:QC) (a1:Int) (kf:Int→QC→Option aa):Option aa:=
 avm N a0.1 a1 (fun ph aBv=>
  avn N a0.2.1 ph (fun aAz aBw=>
   avo N a0.2.2.1 aAz (fun aAA aBx=>
    ae7 N a0.2.2.2.1 aAA (fun aAB aBy=>
     avp N a0.2.2.2.2.1 aAB (fun aAC aAD=>
      avq N a0.2.2.2.2.2.1 aAC (fun avr aAE=>
       kf avr (aBv,(aBw,(aBx,(aBy,(aAD,(aAE,a0.2.2.2.2.2.2))))))))))))
noncomputable def sW (ab:(List Int)):Nat→(Int→Option aa)→(Int→Option aa)→Int→Int→Option aa
 |0,_,_,_,_=>none
 |eT+1,bu,bB,aj,ak=>
  bif (decide (ak<(List.length ab:Int))) then
   bif (aM ak (List.length ab)) then
    bif ((List.getD ab (Int.toNat ak) (0:Int)) != aj) then
     bB (-1:Int)
    else
     (sW ab eT bu bB) (IntKind.wrap .i64 (aj+(1:Int))) (IntKind.wrap .i64 (ak+(1:Int)))
   else none
  else
   bu aj
noncomputable def ae9 (N:Nat) (a0:(List Int)) (a1:Int) (kf:Int→Option aa):Option aa:=
 sW a0 N kf kf a1 (0:Int)
noncomputable def sX (N:Nat) (ab:(List QT)):Nat→(Int→Option aa)→(Int→Option aa)→Int→Int→Option aa
 |0,_,_,_,_=>none
 |eT+1,kQ,fm,aj,ak=>
  bif (decide (ak<(List.length ab:Int))) then
   bif (aM ak (List.length ab)) then
    bif ((List.getD ab (Int.toNat ak) ax).1 != aj) then
     fm (-1:Int)
    else
     bif (aM ak (List.length ab)) then
      bif ((List.getD ab (Int.toNat ak) ax).2.1 != (IntKind.wrap .i64 (aj+(1:Int)))) then
       fm (-1:Int)
      else
       bif (aM ak (List.length ab)) then
        bif ((List.getD ab (Int.toNat ak) ax).2.2.1 != (IntKind.wrap .i64 ((IntKind.wrap .i64 (aj+(1:Int)))+(1:Int)))) then
         fm (-1:Int)
        else
         bif (aM ak (List.length ab)) then
          bif ((List.getD ab (Int.toNat ak) ax).2.2.2.1 != (IntKind.wrap .i64 ((IntKind.wrap .i64 ((IntKind.wrap .i64 (aj+(1:Int)))+(1:Int)))+(1:Int)))) then
           fm (-1:Int)
          else
           bif (aM ak (List.length ab)) then
            bif ((List.getD ab (Int.toNat ak) ax).2.2.2.2.1 != (IntKind.wrap .i64 ((IntKind.wrap .i64 ((IntKind.wrap .i64 ((IntKind.wrap .i64 (aj+(1:Int)))+(1:Int)))+(1:Int)))+(1:Int)))) then
             fm (-1:Int)
            else
             bif (aM ak (List.length ab)) then
              ae9 N (List.getD ab (Int.toNat ak) ax).2.2.2.2.2 (IntKind.wrap .i64 ((IntKind.wrap .i64 ((IntKind.wrap .i64 ((IntKind.wrap .i64 ((IntKind.wrap .i64 (aj+(1:Int)))+(1:Int)))+(1:Int)))+(1:Int)))+(1:Int))) (fun as'=>
               bif (decide (as'<(0:Int))) then
                fm (-1:Int)
               else
                (sX N ab eT kQ fm) as' (IntKind.wrap .i64 (ak+(1:Int))))
             else none
           else none
         else none
       else none
     else none
   else none
  else
   kQ aj
noncomputable def avs (N:Nat) (a0:(List QT)) (a1:Int) (kf:Int→Option aa):Option aa:=
 sX N a0 N kf kf a1 (0:Int)
noncomputable def sY (N:Nat) (ab:(List QJ)):Nat→(Int→Option aa)→(Int→Option aa)→Int→Int→Option aa
 |0,_,_,_,_=>none
 |eT+1,kQ,fm,aj,ak=>
  bif (decide (ak<(List.length ab:Int))) then
   bif (aM ak (List.length ab)) then
    bif ((List.getD ab (Int.toNat ak) cg).1 != aj) then
     fm (-1:Int)
    else
     bif (aM ak (List.length ab)) then
      bif ((List.getD ab (Int.toNat ak) cg).2.1 != (IntKind.wrap .i64 (aj+(1:Int)))) then
       fm (-1:Int)
      else
       bif (aM ak (List.length ab)) then
        ae9 N (List.getD ab (Int.toNat ak) cg).2.2 (IntKind.wrap .i64 ((IntKind.wrap .i64 (aj+(1:Int)))+(1:Int))) (fun ata=>
         bif (decide (ata<(0:Int))) then
          fm (-1:Int)
         else
          (sY N ab eT kQ fm) ata (IntKind.wrap .i64 (ak+(1:Int))))
       else none
     else none
   else none
  else
   kQ aj
noncomputable def avt (N:Nat) (a0:(List QJ)) (a1:Int) (kf:Int→Option aa):Option aa:=
 sY N a0 N kf kf a1 (0:Int)
noncomputable def sZ (ab:(List a8)):Nat→(Int→Option aa)→(Int→Option aa)→Int→Int→Option aa
 |0,_,_,_,_=>none
 |eT+1,bu,bB,aj,ak=>
  bif (decide (ak<(List.length ab:Int))) then
   bif (aM ak (List.length ab)) then
    bif ((List.getD ab (Int.toNat ak) cC).1 != aj) then
     bB (-1:Int)
    else
     bif (aM ak (List.length ab)) then
      bif ((List.getD ab (Int.toNat ak) cC).2 != (IntKind.wrap .i64 (aj+(1:Int)))) then
       bB (-1:Int)
      else
       (sZ ab eT bu bB) (IntKind.wrap .i64 ((IntKind.wrap .i64 (aj+(1:Int)))+(1:Int))) (IntKind.wrap .i64 (ak+(1:Int)))
     else none
   else none
  else
   bu aj
noncomputable def avu (N:Nat) (a0:(List a8)) (a1:Int) (kf:Int→Option aa):Option aa:=
 sZ a0 N kf kf a1 (0:Int)
noncomputable def s4 (ab:(List QB)):Nat→(Int→Option aa)→(Int→Option aa)→Int→Int→Option aa
 |0,_,_,_,_=>none
 |eT+1,bu,bB,aj,ak=>
  bif (decide (ak<(List.length ab:Int))) then
   bif (aM ak (List.length ab)) then
    bif ((List.getD ab (Int.toNat ak) fu).1 != aj) then
     bB (-1:Int)
    else
     bif (aM ak (List.length ab)) then
      bif ((List.getD ab (Int.toNat ak) fu).2.1 != (IntKind.wrap .i64 (aj+(1:Int)))) then
       bB (-1:Int)
      else
       bif (aM ak (List.length ab)) then
        bif ((List.getD ab (Int.toNat ak) fu).2.2 != (IntKind.wrap .i64 ((IntKind.wrap .i64 (aj+(1:Int)))+(1:Int)))) then
         bB (-1:Int)
        else
         (s4 ab eT bu bB) (IntKind.wrap .i64 ((IntKind.wrap .i64 ((IntKind.wrap .i64 (aj+(1:Int)))+(1:Int)))+(1:Int))) (IntKind.wrap .i64 (ak+(1:Int)))
       else none
     else none
   else none
  else
   bu aj
noncomputable def avv (N:Nat) (a0:(List QB)) (a1:Int) (kf:Int→Option aa):Option aa:=
 s4 a0 N kf kf a1 (0:Int)
noncomputable def s5 (ab:(List QL)):Nat→(Int→Option aa)→(Int→Option aa)→Int→Int→Option aa
 |0,_,_,_,_=>none
 |eT+1,bu,bB,aj,ak=>
  bif (decide (ak<(List.length ab:Int))) then
   bif (aM ak (List.length ab)) then
    bif ((List.getD ab (Int.toNat ak) mf).1 != aj) then
     bB (-1:Int)
    else
     bif (aM ak (List.length ab)) then
      bif ((List.getD ab (Int.toNat ak) mf).2.1 != (IntKind.wrap .i64 (aj+(1:Int)))) then
       bB (-1:Int)
      else
       bif (aM ak (List.length ab)) then
        bif ((List.getD ab (Int.toNat ak) mf).2.2.1 != (IntKind.wrap .i64 ((IntKind.wrap .i64 (aj+(1:Int)))+(1:Int)))) then
         bB (-1:Int)
        else
         bif (aM ak (List.length ab)) then
          bif ((List.getD ab (Int.toNat ak) mf).2.2.2 != (IntKind.wrap .i64 ((IntKind.wrap .i64 ((IntKind.wrap .i64 (aj+(1:Int)))+(1:Int)))+(1:Int)))) then
           bB (-1:Int)
          else
           (s5 ab eT bu bB) (IntKind.wrap .i64 ((IntKind.wrap .i64 ((IntKind.wrap .i64 ((IntKind.wrap .i64 (aj+(1:Int)))+(1:Int)))+(1:Int)))+(1:Int))) (IntKind.wrap .i64 (ak+(1:Int)))
         else none
       else none
     else none
   else none
  else
   bu aj
noncomputable def avw (N:Nat) (a0:(List QL)) (a1:Int) (kf:Int→Option aa):Option aa:=
 s5 a0 N kf kf a1 (0:Int)
noncomputable def L26 (N:Nat) (a0:QC) (a1:Int) (kf:Int→Option aa):Option aa:=
 avs N a0.1 a1 (fun ph=>
  bif (decide (ph<(0:Int))) then
   kf (-1:Int)
  else
   avt N a0.2.1 ph (fun cr=>
    bif (decide (cr<(0:Int))) then
     kf (-1:Int)
    else
     avu N a0.2.2.1 cr (fun NU=>
      bif (decide (NU<(0:Int))) then
       kf (-1:Int)
      else
       ae9 N a0.2.2.2.1 NU (fun od=>
        bif (decide (od<(0:Int))) then
         kf (-1:Int)
        else
         avv N a0.2.2.2.2.1 od (fun NV=>
          bif (decide (NV<(0:Int))) then
           kf (-1:Int)
          else
           avw N a0.2.2.2.2.2.1 NV (fun NW=>
            bif (decide (NW<(0:Int))) then
             kf (-1:Int)
            else
             kf NW))))))
noncomputable def nb (lp:QC) (bc:QB):Nat→((List Int)→Option aa)→(List Int)→Int→Option aa
 |0,_,_,_=>none
 |mG+1,ir,ao,lz=>
  bif (decide (lz<(List.length lp.2.2.2.2.1:Int))) then
   bif (aM lz (List.length lp.2.2.2.2.1)) then
    bif ((decide (((List.getD lp.2.2.2.2.1 (Int.toNat lz) fu).1:Int)=bc.1))&&((decide (((List.getD lp.2.2.2.2.1 (Int.toNat lz) fu).2.1:Int)=bc.2.1))&&(decide (((List.getD lp.2.2.2.2.1 (Int.toNat lz) fu).2.2:Int)=bc.2.2)))) then
     bif (decide ((List.length ao+List.length [lz])*1≤4398046511104)) then
      (nb lp bc mG ir) (ao++[lz]) (IntKind.wrap .i64 (lz+(1:Int)))
     else none
    else
     (nb lp bc mG ir) ao (IntKind.wrap .i64 (lz+(1:Int)))
   else none
  else
   ir ao
noncomputable def alj (N:Nat) (a0:QC) (kf:(List Int)→Option aa):Option aa:=
 nb a0 ((0:Int),((0:Int),(0:Int))) N kf ([]:(List Int)) (0:Int)
noncomputable def nc (N:Nat) (ab:(List QB)):Nat→(Option aa)→(Bool→Option aa)→Int→Option aa
 |0,_,_,_=>none
 |n_3+1,bu,bB,ao=>
  bif (decide (ao<(List.length ab:Int))) then
   bif (aM ao (List.length ab)) then
    N4 N (List.getD ab (Int.toNat ao) fu) (fun ae'=>
     bif (!ae') then
      bB false
     else
      bif (decide (ao>(0:Int))) then
       bif (aM (IntKind.wrap .i64 (ao - (1:Int))) (List.length ab)) then
        bif (aM ao (List.length ab)) then
         bif (decide ((List.getD ab (Int.toNat (IntKind.wrap .i64 (ao - (1:Int)))) fu).1≥(List.getD ab (Int.toNat ao) fu).1)) then
          bB false
         else
          (nc N ab n_3 bu bB) (IntKind.wrap .i64 (ao+(1:Int)))
        else none
       else none
      else
       (nc N ab n_3 bu bB) (IntKind.wrap .i64 (ao+(1:Int))))
   else none
  else
   bu
noncomputable def Te (N:Nat) (a0:(List QB)) (kf:Bool→Option aa):Option aa:=
 nc N a0 N (kf (decide ((List.length a0:Int)≤(9:Int)))) kf (0:Int)
noncomputable def aaY (N:Nat) (a0:QB) (kf:Int→Option aa):Option aa:=
 bif (decide (a0.2.1>a0.2.2)) then
  kf (1:Int)
 else
  kf (2:Int)
noncomputable def nf (N:Nat) (ab:(List QB)) (aj:Int):Nat→(Int→Option aa)→Int→Int→Option aa
 |0,_,_,_=>none
 |mG+1,bR,ak,fL=>
  bif (decide (fL<(List.length ab:Int))) then
   Te N ab (fun N8=>
    bif N8 then
     bif (aM fL (List.length ab)) then
      aaY N (List.getD ab (Int.toNat fL) fu) (fun xw=>
       bif (xw==aj) then
        (nf N ab aj mG bR) (IntKind.wrap .i64 (ak+(1:Int))) (IntKind.wrap .i64 (fL+(1:Int)))
       else
        (nf N ab aj mG bR) ak (IntKind.wrap .i64 (fL+(1:Int))))
     else none
    else
     bR ak)
  else
   bR ak
noncomputable def afa (N:Nat) (a0:(List QB)) (a1:Int) (kf:Int→Option aa):Option aa:=
 nf N a0 a1 N kf (0:Int) (0:Int)
noncomputable def xD (N:Nat) (ab:(List QB)) (aj:Int):Nat→(Int→Option aa)→Int→Int→Option aa
 |0,_,_,_=>none
 |mG+1,cU,ak,fL=>
  bif (decide (fL<(List.length ab:Int))) then
   Te N ab (fun N8=>
    bif N8 then
     bif (aj==(1:Int)) then
      bif (aM fL (List.length ab)) then
       (xD N ab aj mG cU) (IntKind.wrap .i64 (ak+(List.getD ab (Int.toNat fL) fu).2.1)) (IntKind.wrap .i64 (fL+(1:Int)))
      else none
     else
      bif (aj==(2:Int)) then
       bif (aM fL (List.length ab)) then
        (xD N ab aj mG cU) (IntKind.wrap .i64 (ak+(List.getD ab (Int.toNat fL) fu).2.2)) (IntKind.wrap .i64 (fL+(1:Int)))
       else none
      else
       (xD N ab aj mG cU) ak (IntKind.wrap .i64 (fL+(1:Int)))
    else
     cU ak)
  else
   cU ak
noncomputable def avx (N:Nat) (a0:(List QB)) (a1:Int) (kf:Int→Option aa):Option aa:=
 xD N a0 a1 N kf (0:Int) (0:Int)
noncomputable def Xl (N:Nat) (a0:(List QB)) (kf:Int→Option aa) (aAF:Int):Option aa:=
 bif (decide (aAF>(0:Int))) then
  kf (1:Int)
 else
  bif (decide (aAF<(0:Int))) then
   kf (2:Int)
  else
   bif (aM (0:Int) (List.length a0)) then
    aaY N (List.getD a0 (Int.toNat (0:Int)) fu) kf
   else none
noncomputable def aaZ (N:Nat) (a0:(List QB)) (kf:Int→Option aa):Option aa:=
 bif ((List.length a0:Int)==(0:Int)) then
  kf (0:Int)
 else
  Te N a0 (fun jv=>
   bif (!jv) then
    kf (0:Int)
   else
    afa N a0 (1:Int) (fun fR=>
     afa N a0 (2:Int) (fun atb=>
      bif ((IntKind.wrap .i64 (fR - atb))==(0:Int)) then
       avx N a0 (1:Int) (fun aAG=>
        avx N a0 (2:Int) (fun aeR=>
         Xl N a0 kf (IntKind.wrap .i64 (aAG - aeR))))
      else
       Xl N a0 kf (IntKind.wrap .i64 (fR - atb)))))
noncomputable def DJ (N:Nat) (a0:(List QT)) (kf:(List QT)→Bool→Option aa) (afb:(List QT)):Option aa:=
 tF N afb (fun alk=>
  bif (!alk) then
   FC N a0 (fun alm=>
    kf alm false)
  else
   kf afb true)
noncomputable def aa0 (N:Nat) (a0:(List QT)) (a1:Int) (a2:Int) (a3:Int) (a4:Int) (a5:Int) (kf:(List QT)→Bool→Option aa):Option aa:=
 FC N a0 (fun aE=>
  ve N a0 a1 (fun ae=>
   ve N a0 a2 (fun aD=>
    tF N a0 (fun od=>
     bif (!od) then
      kf aE false
     else
      bif (decide (ae<(0:Int))) then
       kf aE false
      else
       bif (decide (aD<(0:Int))) then
        kf aE false
       else
        bif (ae==aD) then
         kf aE false
        else
         gy N a3 (1:Int) (2:Int) (fun aeK=>
          bif (!aeK) then
           kf aE false
          else
           gy N a4 (0:Int) (1000:Int) (fun aeL=>
            bif (!aeL) then
             kf aE false
            else
             gy N a5 (0:Int) (1000:Int) (fun aeM=>
              bif (!aeM) then
               kf aE false
              else
               bif (aM ae (List.length aE)) then
                bif (decide ((List.length (List.getD aE (Int.toNat ae) ax).2.2.2.2.2+List.length [a2])*1≤4398046511104)) then
                 bif (aM ae (List.length aE)) then
                  bif (Nat.beq (Int.toNat ae) (Int.toNat ae)) then
                   bif (aM aD (List.length (List.set aE (Int.toNat ae) ((List.getD aE (Int.toNat ae) ax).1,((List.getD aE (Int.toNat ae) ax).2.1,((List.getD aE (Int.toNat ae) ax).2.2.1,((List.getD aE (Int.toNat ae) ax).2.2.2.1,((List.getD aE (Int.toNat ae) ax).2.2.2.2.1,((List.getD aE (Int.toNat ae) ax).2.2.2.2.2++[a2]))))))))) then
                    bif (decide ((List.length (List.getD (List.set aE (Int.toNat ae) ((List.getD aE (Int.toNat ae) ax).1,((List.getD aE (Int.toNat ae) ax).2.1,((List.getD aE (Int.toNat ae) ax).2.2.1,((List.getD aE (Int.toNat ae) ax).2.2.2.1,((List.getD aE (Int.toNat ae) ax).2.2.2.2.1,((List.getD aE (Int.toNat ae) ax).2.2.2.2.2++[a2]))))))) (Int.toNat aD) ax).2.2.2.2.2+List.length [a1])*1≤4398046511104)) then
                     bif (aM aD (List.length (List.set aE (Int.toNat ae) ((List.getD aE (Int.toNat ae) ax).1,((List.getD aE (Int.toNat ae) ax).2.1,((List.getD aE (Int.toNat ae) ax).2.2.1,((List.getD aE (Int.toNat ae) ax).2.2.2.1,((List.getD aE (Int.toNat ae) ax).2.2.2.2.1,((List.getD aE (Int.toNat ae) ax).2.2.2.2.2++[a2]))))))))) then
                      bif (Nat.beq (Int.toNat aD) (Int.toNat aD)) then
                       share (List.set (List.set aE (Int.toNat ae) ((List.getD aE (Int.toNat ae) ax).1,((List.getD aE (Int.toNat ae) ax).2.1,((List.getD aE (Int.toNat ae) ax).2.2.1,((List.getD aE (Int.toNat ae) ax).2.2.2.1,((List.getD aE (Int.toNat ae) ax).2.2.2.2.1,((List.getD aE (Int.toNat ae) ax).2.2.2.2.2++[a2]))))))) (Int.toNat aD) ((List.getD (List.set aE (Int.toNat ae) ((List.getD aE (Int.toNat ae) ax).1,((List.getD aE (Int.toNat ae) ax).2.1,((List.getD aE (Int.toNat ae) ax).2.2.1,((List.getD aE (Int.toNat ae) ax).2.2.2.1,((List.getD aE (Int.toNat ae) ax).2.2.2.2.1,((List.getD aE (Int.toNat ae) ax).2.2.2.2.2++[a2]))))))) (Int.toNat aD) ax).1,((List.getD (List.set aE (Int.toNat ae) ((List.getD aE (Int.toNat ae) ax).1,((List.getD aE (Int.toNat ae) ax).2.1,((List.getD aE (Int.toNat ae) ax).2.2.1,((List.getD aE (Int.toNat ae) ax).2.2.2.1,((List.getD aE (Int.toNat ae) ax).2.2.2.2.1,((List.getD aE (Int.toNat ae) ax).2.2.2.2.2++[a2]))))))) (Int.toNat aD) ax).2.1,((List.getD (List.set aE (Int.toNat ae) ((List.getD aE (Int.toNat ae) ax).1,((List.getD aE (Int.toNat ae) ax).2.1,((List.getD aE (Int.toNat ae) ax).2.2.1,((List.getD aE (Int.toNat ae) ax).2.2.2.1,((List.getD aE (Int.toNat ae) ax).2.2.2.2.1,((List.getD aE (Int.toNat ae) ax).2.2.2.2.2++[a2]))))))) (Int.toNat aD) ax).2.2.1,((List.getD (List.set aE (Int.toNat ae) ((List.getD aE (Int.toNat ae) ax).1,((List.getD aE (Int.toNat ae) ax).2.1,((List.getD aE (Int.toNat ae) ax).2.2.1,((List.getD aE (Int.toNat ae) ax).2.2.2.1,((List.getD aE (Int.toNat ae) ax).2.2.2.2.1,((List.getD aE (Int.toNat ae) ax).2.2.2.2.2++[a2]))))))) (Int.toNat aD) ax).2.2.2.1,((List.getD (List.set aE (Int.toNat ae) ((List.getD aE (Int.toNat ae) ax).1,((List.getD aE (Int.toNat ae) ax).2.1,((List.getD aE (Int.toNat ae) ax).2.2.1,((List.getD aE (Int.toNat ae) ax).2.2.2.1,((List.getD aE (Int.toNat ae) ax).2.2.2.2.1,((List.getD aE (Int.toNat ae) ax).2.2.2.2.2++[a2]))))))) (Int.toNat aD) ax).2.2.2.2.1,((List.getD (List.set aE (Int.toNat ae) ((List.getD aE (Int.toNat ae) ax).1,((List.getD aE (Int.toNat ae) ax).2.1,((List.getD aE (Int.toNat ae) ax).2.2.1,((List.getD aE (Int.toNat ae) ax).2.2.2.1,((List.getD aE (Int.toNat ae) ax).2.2.2.2.1,((List.getD aE (Int.toNat ae) ax).2.2.2.2.2++[a2]))))))) (Int.toNat aD) ax).2.2.2.2.2++[a1]))))))) (fun aA=>
                        bif (aM ae (List.length aA)) then
                         bif (aM ae (List.length aA)) then
                          bif (aM ae (List.length (List.set aA (Int.toNat ae) ((List.getD aA (Int.toNat ae) ax).1,((List.getD aA (Int.toNat ae) ax).2.1,((List.getD aA (Int.toNat ae) ax).2.2.1,((List.getD aA (Int.toNat ae) ax).2.2.2.1,((IntKind.wrap .i64 ((List.getD aA (Int.toNat ae) ax).2.2.2.2.1+(1:Int))),(List.getD aA (Int.toNat ae) ax).2.2.2.2.2)))))))) then
                           bif (aM ae (List.length (List.set aA (Int.toNat ae) ((List.getD aA (Int.toNat ae) ax).1,((List.getD aA (Int.toNat ae) ax).2.1,((List.getD aA (Int.toNat ae) ax).2.2.1,((List.getD aA (Int.toNat ae) ax).2.2.2.1,((IntKind.wrap .i64 ((List.getD aA (Int.toNat ae) ax).2.2.2.2.1+(1:Int))),(List.getD aA (Int.toNat ae) ax).2.2.2.2.2)))))))) then
                            share (List.set (List.set aA (Int.toNat ae) ((List.getD aA (Int.toNat ae) ax).1,((List.getD aA (Int.toNat ae) ax).2.1,((List.getD aA (Int.toNat ae) ax).2.2.1,((List.getD aA (Int.toNat ae) ax).2.2.2.1,((IntKind.wrap .i64 ((List.getD aA (Int.toNat ae) ax).2.2.2.2.1+(1:Int))),(List.getD aA (Int.toNat ae) ax).2.2.2.2.2)))))) (Int.toNat ae) ((List.getD (List.set aA (Int.toNat ae) ((List.getD aA (Int.toNat ae) ax).1,((List.getD aA (Int.toNat ae) ax).2.1,((List.getD aA (Int.toNat ae) ax).2.2.1,((List.getD aA (Int.toNat ae) ax).2.2.2.1,((IntKind.wrap .i64 ((List.getD aA (Int.toNat ae) ax).2.2.2.2.1+(1:Int))),(List.getD aA (Int.toNat ae) ax).2.2.2.2.2)))))) (Int.toNat ae) ax).1,((List.getD (List.set aA (Int.toNat ae) ((List.getD aA (Int.toNat ae) ax).1,((List.getD aA (Int.toNat ae) ax).2.1,((List.getD aA (Int.toNat ae) ax).2.2.1,((List.getD aA (Int.toNat ae) ax).2.2.2.1,((IntKind.wrap .i64 ((List.getD aA (Int.toNat ae) ax).2.2.2.2.1+(1:Int))),(List.getD aA (Int.toNat ae) ax).2.2.2.2.2)))))) (Int.toNat ae) ax).2.1,((List.getD (List.set aA (Int.toNat ae) ((List.getD aA (Int.toNat ae) ax).1,((List.getD aA (Int.toNat ae) ax).2.1,((List.getD aA (Int.toNat ae) ax).2.2.1,((List.getD aA (Int.toNat ae) ax).2.2.2.1,((IntKind.wrap .i64 ((List.getD aA (Int.toNat ae) ax).2.2.2.2.1+(1:Int))),(List.getD aA (Int.toNat ae) ax).2.2.2.2.2)))))) (Int.toNat ae) ax).2.2.1,((IntKind.wrap .i64 ((List.getD (List.set aA (Int.toNat ae) ((List.getD aA (Int.toNat ae) ax).1,((List.getD aA (Int.toNat ae) ax).2.1,((List.getD aA (Int.toNat ae) ax).2.2.1,((List.getD aA (Int.toNat ae) ax).2.2.2.1,((IntKind.wrap .i64 ((List.getD aA (Int.toNat ae) ax).2.2.2.2.1+(1:Int))),(List.getD aA (Int.toNat ae) ax).2.2.2.2.2)))))) (Int.toNat ae) ax).2.2.2.1+a4)),(List.getD (List.set aA (Int.toNat ae) ((List.getD aA (Int.toNat ae) ax).1,((List.getD aA (Int.toNat ae) ax).2.1,((List.getD aA (Int.toNat ae) ax).2.2.1,((List.getD aA (Int.toNat ae) ax).2.2.2.1,((IntKind.wrap .i64 ((List.getD aA (Int.toNat ae) ax).2.2.2.2.1+(1:Int))),(List.getD aA (Int.toNat ae) ax).2.2.2.2.2)))))) (Int.toNat ae) ax).2.2.2.2))))) (fun aY=>
                             bif (aM aD (List.length aY)) then
                              bif (aM aD (List.length aY)) then
                               bif (a3==(1:Int)) then
                                bif (aM ae (List.length (List.set aY (Int.toNat aD) ((List.getD aY (Int.toNat aD) ax).1,((List.getD aY (Int.toNat aD) ax).2.1,((List.getD aY (Int.toNat aD) ax).2.2.1,((IntKind.wrap .i64 ((List.getD aY (Int.toNat aD) ax).2.2.2.1+a5)),(List.getD aY (Int.toNat aD) ax).2.2.2.2))))))) then
                                 bif (aM ae (List.length (List.set aY (Int.toNat aD) ((List.getD aY (Int.toNat aD) ax).1,((List.getD aY (Int.toNat aD) ax).2.1,((List.getD aY (Int.toNat aD) ax).2.2.1,((IntKind.wrap .i64 ((List.getD aY (Int.toNat aD) ax).2.2.2.1+a5)),(List.getD aY (Int.toNat aD) ax).2.2.2.2))))))) then
                                  share (List.set (List.set aY (Int.toNat aD) ((List.getD aY (Int.toNat aD) ax).1,((List.getD aY (Int.toNat aD) ax).2.1,((List.getD aY (Int.toNat aD) ax).2.2.1,((IntKind.wrap .i64 ((List.getD aY (Int.toNat aD) ax).2.2.2.1+a5)),(List.getD aY (Int.toNat aD) ax).2.2.2.2))))) (Int.toNat ae) ((List.getD (List.set aY (Int.toNat aD) ((List.getD aY (Int.toNat aD) ax).1,((List.getD aY (Int.toNat aD) ax).2.1,((List.getD aY (Int.toNat aD) ax).2.2.1,((IntKind.wrap .i64 ((List.getD aY (Int.toNat aD) ax).2.2.2.1+a5)),(List.getD aY (Int.toNat aD) ax).2.2.2.2))))) (Int.toNat ae) ax).1,((List.getD (List.set aY (Int.toNat aD) ((List.getD aY (Int.toNat aD) ax).1,((List.getD aY (Int.toNat aD) ax).2.1,((List.getD aY (Int.toNat aD) ax).2.2.1,((IntKind.wrap .i64 ((List.getD aY (Int.toNat aD) ax).2.2.2.1+a5)),(List.getD aY (Int.toNat aD) ax).2.2.2.2))))) (Int.toNat ae) ax).2.1,((IntKind.wrap .i64 ((List.getD (List.set aY (Int.toNat aD) ((List.getD aY (Int.toNat aD) ax).1,((List.getD aY (Int.toNat aD) ax).2.1,((List.getD aY (Int.toNat aD) ax).2.2.1,((IntKind.wrap .i64 ((List.getD aY (Int.toNat aD) ax).2.2.2.1+a5)),(List.getD aY (Int.toNat aD) ax).2.2.2.2))))) (Int.toNat ae) ax).2.2.1+(1:Int))),(List.getD (List.set aY (Int.toNat aD) ((List.getD aY (Int.toNat aD) ax).1,((List.getD aY (Int.toNat aD) ax).2.1,((List.getD aY (Int.toNat aD) ax).2.2.1,((IntKind.wrap .i64 ((List.getD aY (Int.toNat aD) ax).2.2.2.1+a5)),(List.getD aY (Int.toNat aD) ax).2.2.2.2))))) (Int.toNat ae) ax).2.2.2)))) (fun SV=>
                                   DJ N a0 kf SV)
                                 else none
                                else none
                               else
                                bif (aM aD (List.length (List.set aY (Int.toNat aD) ((List.getD aY (Int.toNat aD) ax).1,((List.getD aY (Int.toNat aD) ax).2.1,((List.getD aY (Int.toNat aD) ax).2.2.1,((IntKind.wrap .i64 ((List.getD aY (Int.toNat aD) ax).2.2.2.1+a5)),(List.getD aY (Int.toNat aD) ax).2.2.2.2))))))) then
                                 bif (aM aD (List.length (List.set aY (Int.toNat aD) ((List.getD aY (Int.toNat aD) ax).1,((List.getD aY (Int.toNat aD) ax).2.1,((List.getD aY (Int.toNat aD) ax).2.2.1,((IntKind.wrap .i64 ((List.getD aY (Int.toNat aD) ax).2.2.2.1+a5)),(List.getD aY (Int.toNat aD) ax).2.2.2.2))))))) then
                                  share (List.set (List.set aY (Int.toNat aD) ((List.getD aY (Int.toNat aD) ax).1,((List.getD aY (Int.toNat aD) ax).2.1,((List.getD aY (Int.toNat aD) ax).2.2.1,((IntKind.wrap .i64 ((List.getD aY (Int.toNat aD) ax).2.2.2.1+a5)),(List.getD aY (Int.toNat aD) ax).2.2.2.2))))) (Int.toNat aD) ((List.getD (List.set aY (Int.toNat aD) ((List.getD aY (Int.toNat aD) ax).1,((List.getD aY (Int.toNat aD) ax).2.1,((List.getD aY (Int.toNat aD) ax).2.2.1,((IntKind.wrap .i64 ((List.getD aY (Int.toNat aD) ax).2.2.2.1+a5)),(List.getD aY (Int.toNat aD) ax).2.2.2.2))))) (Int.toNat aD) ax).1,((List.getD (List.set aY (Int.toNat aD) ((List.getD aY (Int.toNat aD) ax).1,((List.getD aY (Int.toNat aD) ax).2.1,((List.getD aY (Int.toNat aD) ax).2.2.1,((IntKind.wrap .i64 ((List.getD aY (Int.toNat aD) ax).2.2.2.1+a5)),(List.getD aY (Int.toNat aD) ax).2.2.2.2))))) (Int.toNat aD) ax).2.1,((IntKind.wrap .i64 ((List.getD (List.set aY (Int.toNat aD) ((List.getD aY (Int.toNat aD) ax).1,((List.getD aY (Int.toNat aD) ax).2.1,((List.getD aY (Int.toNat aD) ax).2.2.1,((IntKind.wrap .i64 ((List.getD aY (Int.toNat aD) ax).2.2.2.1+a5)),(List.getD aY (Int.toNat aD) ax).2.2.2.2))))) (Int.toNat aD) ax).2.2.1+(1:Int))),(List.getD (List.set aY (Int.toNat aD) ((List.getD aY (Int.toNat aD) ax).1,((List.getD aY (Int.toNat aD) ax).2.1,((List.getD aY (Int.toNat aD) ax).2.2.1,((IntKind.wrap .i64 ((List.getD aY (Int.toNat aD) ax).2.2.2.1+a5)),(List.getD aY (Int.toNat aD) ax).2.2.2.2))))) (Int.toNat aD) ax).2.2.2)))) (fun avy=>
                                   DJ N a0 kf avy)
                                 else none
                                else none
                              else none
                             else none)
                           else none
                          else none
                         else none
                        else none)
                      else none
                     else none
                    else none
                   else none
                  else none
                 else none
                else none
               else none)))))))
noncomputable def s6 (a0:(List Int)) (a1:Int) (kf:(List Int)→Option aa) (mJ:Int):Option aa:=
 bif (decide ((0:Int)≤(0:Int))&&decide ((0:Int)≤mJ)&&decide (mJ≤(List.length a0:Int))) then
  bif (decide ((0:Int)≤mJ)&&decide (mJ≤(List.length a0:Int))&&decide ((List.length a0:Int)≤(List.length a0:Int))) then
   bif (decide ((List.length ([]:(List Int))+List.length (List.drop (Int.toNat (0:Int)) (List.take (Int.toNat mJ) a0)))*1≤4398046511104)) then
    bif (decide ((List.length (([]:(List Int))++(List.drop (Int.toNat (0:Int)) (List.take (Int.toNat mJ) a0)))+List.length [a1])*1≤4398046511104)) then
     bif (decide ((List.length ((([]:(List Int))++(List.drop (Int.toNat (0:Int)) (List.take (Int.toNat mJ) a0)))++[a1])+List.length (List.drop (Int.toNat mJ) (List.take (Int.toNat (List.length a0:Int)) a0)))*1≤4398046511104)) then
      kf (((([]:(List Int))++(List.drop (Int.toNat (0:Int)) (List.take (Int.toNat mJ) a0)))++[a1])++(List.drop (Int.toNat mJ) (List.take (Int.toNat (List.length a0:Int)) a0)))
     else none
    else none
   else none
  else none
 else none
noncomputable def qb (ab:(List Int)) (aj:Int):Nat→(Int→Option aa)→Int→Option aa
 |0,_,_=>none
 |eT+1,bu,ak=>
  bif (decide (ak<(List.length ab:Int))) then
   bif (aM ak (List.length ab)) then
    bif (decide ((List.getD ab (Int.toNat ak) (0:Int))<aj)) then
     (qb ab aj eT bu) (IntKind.wrap .i64 (ak+(1:Int)))
    else
     bu ak
   else none
  else
   bu ak
noncomputable def vg (N:Nat) (a0:(List Int)) (a1:Int) (kf:(List Int)→Option aa):Option aa:=
 qb a0 a1 N (fun mJ=>
  bif (decide (mJ<(List.length a0:Int))) then
   bif (aM mJ (List.length a0)) then
    bif ((List.getD a0 (Int.toNat mJ) (0:Int))==a1) then
     bif (decide ((List.length ([]:(List Int))+List.length a0)*1≤4398046511104)) then
      kf (([]:(List Int))++a0)
     else none
    else
     s6 a0 a1 kf mJ
   else none
  else
   s6 a0 a1 kf mJ) (0:Int)
noncomputable def rQ (N:Nat) (e8:QC) (afc:QC):Nat→(QC→Bool→Option aa)→QC→Bool→Int→Option aa
 |0,_,_,_,_=>none
 |aaD+1,qc,dR,xE,mo=>
  bif (decide (mo<(List.length e8.2.2.1:Int))) then
   bif (aM mo (List.length e8.2.2.2.2.1)) then
    bif (aM mo (List.length e8.2.2.1)) then
     bif (aM mo (List.length e8.2.2.1)) then
      aaZ N [(List.getD e8.2.2.2.2.1 (Int.toNat mo) fu)] (fun FM=>
       aa0 N dR.1 (List.getD e8.2.2.1 (Int.toNat mo) cC).1 (List.getD e8.2.2.1 (Int.toNat mo) cC).2 FM (List.getD e8.2.2.2.2.1 (Int.toNat mo) fu).2.1 (List.getD e8.2.2.2.2.1 (Int.toNat mo) fu).2.2 (fun rR po=>
        bif xE then
         bif (aM mo (List.length e8.2.2.2.1)) then
          FE N dR.2.1 (List.getD e8.2.2.2.1 (Int.toNat mo) (0:Int)) (fun eV=>
           bif (aM eV (List.length dR.2.1)) then
            bif (aM mo (List.length e8.2.2.1)) then
             bif (aM mo (List.length e8.2.2.1)) then
              vg N (List.getD dR.2.1 (Int.toNat eV) cg).2.2 (List.getD e8.2.2.1 (Int.toNat mo) cC).1 (fun FN=>
               vg N FN (List.getD e8.2.2.1 (Int.toNat mo) cC).2 (fun xF=>
                bif (aM eV (List.length dR.2.1)) then
                 (rQ N e8 afc aaD qc) (rR,((List.set dR.2.1 (Int.toNat eV) ((List.getD dR.2.1 (Int.toNat eV) cg).1,((List.getD dR.2.1 (Int.toNat eV) cg).2.1,xF))),dR.2.2)) po (IntKind.wrap .i64 (mo+(1:Int)))
                else none))
             else none
            else none
           else none)
         else none
        else
         bif (aM mo (List.length e8.2.2.2.1)) then
          FE N dR.2.1 (List.getD e8.2.2.2.1 (Int.toNat mo) (0:Int)) (fun eW=>
           bif (aM eW (List.length dR.2.1)) then
            bif (aM mo (List.length e8.2.2.1)) then
             bif (aM mo (List.length e8.2.2.1)) then
              vg N (List.getD dR.2.1 (Int.toNat eW) cg).2.2 (List.getD e8.2.2.1 (Int.toNat mo) cC).1 (fun uX=>
               vg N uX (List.getD e8.2.2.1 (Int.toNat mo) cC).2 (fun xG=>
                bif (aM eW (List.length dR.2.1)) then
                 (rQ N e8 afc aaD qc) (rR,((List.set dR.2.1 (Int.toNat eW) ((List.getD dR.2.1 (Int.toNat eW) cg).1,((List.getD dR.2.1 (Int.toNat eW) cg).2.1,xG))),dR.2.2)) false (IntKind.wrap .i64 (mo+(1:Int)))
                else none))
             else none
            else none
           else none)
         else none))
     else none
    else none
   else none
  else
   qc dR xE
noncomputable def S27 (N:Nat) (a0:QC) (kf:QC→Bool→Option aa):Option aa:=
 SY N a0 (fun qD=>
  Td N a0 (fun cr=>
   bif (!cr) then
    kf qD false
   else
    S94 N a0 (fun Fm=>
     bif (!Fm) then
      kf qD false
     else
      alj N a0 (fun Ic=>
       bif (decide ((List.length Ic:Int)>(0:Int))) then
        kf qD false
       else
        rQ N a0 (([]:(List QT)),(([]:(List QJ)),(([]:(List a8)),(([]:(List Int)),(([]:(List QB)),(([]:(List QL)),(0:Int))))))) N (fun afd aAH=>
         S93 N a0 (afd.1,(afd.2.1,(([]:(List a8)),(([]:(List Int)),(([]:(List QB)),(afd.2.2.2.2.2.1,(IntKind.wrap .i64 (a0.2.2.2.2.2.2+(List.length a0.2.2.1:Int))))))))) aAH (5:Int) (0:Int) kf) qD true (0:Int)))))
noncomputable def ng (aj:Int) (fA:Int) (cK:QC) (xH:QC) (JA:QC):Nat→(Int→Option aa)→Int→Option aa
 |0,_,_=>none
 |n_8+1,bR,AO=>
  bif (decide (AO<(List.length cK.1:Int))) then
   bif (aM AO (List.length cK.1)) then
    bif (decide ((List.getD cK.1 (Int.toNat AO) ax).1<aj)) then
     (ng aj fA cK xH JA n_8 bR) (IntKind.wrap .i64 (AO+(1:Int)))
    else
     bR AO
   else none
  else
   bR AO
noncomputable def aln (N:Nat) (a0:QC) (a1:Int) (a2:Int) (kf:QC→Bool→Option aa):Option aa:=
 SY N a0 (fun cJ=>
  ng a1 a2 a0 (([]:(List QT)),(([]:(List QJ)),(([]:(List a8)),(([]:(List Int)),(([]:(List QB)),(([]:(List QL)),(0:Int))))))) cJ N (fun om=>
   bif (decide ((0:Int)≤(0:Int))&&decide ((0:Int)≤om)&&decide (om≤(List.length a0.1:Int))) then
    FC N (List.drop (Int.toNat (0:Int)) (List.take (Int.toNat om) a0.1)) (fun vh=>
     bif (decide ((List.length vh+List.length [(a1,(a2,((0:Int),((0:Int),((0:Int),([]:(List Int)))))))])*6≤4398046511104)) then
      bif (decide ((0:Int)≤om)&&decide (om≤(List.length a0.1:Int))&&decide ((List.length a0.1:Int)≤(List.length a0.1:Int))) then
       FC N (List.drop (Int.toNat om) (List.take (Int.toNat (List.length a0.1:Int)) a0.1)) (fun FP=>
        bif (decide ((List.length (vh++[(a1,(a2,((0:Int),((0:Int),((0:Int),([]:(List Int)))))))])+List.length FP)*6≤4398046511104)) then
         S94 N a0 (fun avz=>
          S93 N a0 (((vh++[(a1,(a2,((0:Int),((0:Int),((0:Int),([]:(List Int)))))))])++FP),cJ.2) (!avz) (1:Int) a1 kf)
        else none)
      else none
     else none)
   else none) (0:Int))
noncomputable def nh (aj:Int) (fA:Int) (cK:QC) (xH:QC) (JA:QC):Nat→(Int→Option aa)→Int→Option aa
 |0,_,_=>none
 |n_8+1,bR,AO=>
  bif (decide (AO<(List.length cK.2.1:Int))) then
   bif (aM AO (List.length cK.2.1)) then
    bif (decide ((List.getD cK.2.1 (Int.toNat AO) cg).1<aj)) then
     (nh aj fA cK xH JA n_8 bR) (IntKind.wrap .i64 (AO+(1:Int)))
    else
     bR AO
   else none
  else
   bR AO
noncomputable def alo (N:Nat) (a0:QC) (a1:Int) (a2:Int) (kf:QC→Bool→Option aa):Option aa:=
 SY N a0 (fun cJ=>
  nh a1 a2 a0 (([]:(List QT)),(([]:(List QJ)),(([]:(List a8)),(([]:(List Int)),(([]:(List QB)),(([]:(List QL)),(0:Int))))))) cJ N (fun om=>
   bif (decide ((0:Int)≤(0:Int))&&decide ((0:Int)≤om)&&decide (om≤(List.length a0.2.1:Int))) then
    SX N (List.drop (Int.toNat (0:Int)) (List.take (Int.toNat om) a0.2.1)) (fun vh=>
     bif (decide ((List.length vh+List.length [(a1,(a2,([]:(List Int))))])*3≤4398046511104)) then
      bif (decide ((0:Int)≤om)&&decide (om≤(List.length a0.2.1:Int))&&decide ((List.length a0.2.1:Int)≤(List.length a0.2.1:Int))) then
       SX N (List.drop (Int.toNat om) (List.take (Int.toNat (List.length a0.2.1:Int)) a0.2.1)) (fun FP=>
        bif (decide ((List.length (vh++[(a1,(a2,([]:(List Int))))])+List.length FP)*3≤4398046511104)) then
         S93 N a0 (cJ.1,(((vh++[(a1,(a2,([]:(List Int))))])++FP),cJ.2.2)) true (2:Int) a1 kf
        else none)
      else none
     else none)
   else none) (0:Int))
noncomputable def alp (N:Nat) (a0:QC) (a1:Int) (a2:Int) (a3:Int) (kf:QC→Bool→Option aa):Option aa:=
 SY N a0 (fun eh=>
  Td N a0 (fun oa=>
   bif (!oa) then
    kf eh false
   else
    gy N a1 (0:Int) (IntKind.wrap .i64 ((List.length a0.2.2.1:Int) - (1:Int))) (fun aD=>
     bif (!aD) then
      kf eh false
     else
      bif (aM a1 (List.length a0.2.2.2.2.1)) then
       bif (!((decide (((List.getD a0.2.2.2.2.1 (Int.toNat a1) fu).1:Int)=(0:Int)))&&((decide (((List.getD a0.2.2.2.2.1 (Int.toNat a1) fu).2.1:Int)=(0:Int)))&&(decide (((List.getD a0.2.2.2.2.1 (Int.toNat a1) fu).2.2:Int)=(0:Int)))))) then
        kf eh false
       else
        bif (aM a1 (List.length a0.2.2.2.1)) then
         bif (aM a1 (List.length eh.2.2.2.2.1)) then
          bif (aM a1 (List.length (List.set eh.2.2.2.2.1 (Int.toNat a1) ((List.getD a0.2.2.2.1 (Int.toNat a1) (0:Int)),(a2,a3))))) then
           bif (aM a1 (List.length a0.2.2.2.1)) then
            N4 N (List.getD (List.set eh.2.2.2.2.1 (Int.toNat a1) ((List.getD a0.2.2.2.1 (Int.toNat a1) (0:Int)),(a2,a3))) (Int.toNat a1) fu) (fun aeW=>
             S93 N a0 (eh.1,(eh.2.1,(eh.2.2.1,(eh.2.2.2.1,((List.set eh.2.2.2.2.1 (Int.toNat a1) ((List.getD a0.2.2.2.1 (Int.toNat a1) (0:Int)),(a2,a3))),eh.2.2.2.2.2))))) aeW (4:Int) (List.getD a0.2.2.2.1 (Int.toNat a1) (0:Int)) kf)
           else none
          else none
         else none
        else none
      else none)))
noncomputable def vi (N:Nat) (AG:QC) (c8:(List QL)) (CJ:Int):Nat→(QC→Option aa)→QC→Int→Option aa
 |0,_,_,_=>none
 |n_7+1,s7,ak,Xm=>
  bif (decide (Xm<CJ)) then
   bif (aM Xm (List.length c8)) then
    I13 N ak (List.getD c8 (Int.toNat Xm) mf) (fun Ft aAI=>
     (vi N AG c8 CJ n_7 s7) Ft (IntKind.wrap .i64 (Xm+(1:Int))))
   else none
  else
   s7 ak
noncomputable def I43 (N:Nat) (a0:QC) (a1:(List QL)) (kf:QC→Option aa):Option aa:=
 H8 N a0 (fun jv=>
  vi N (([]:(List QT)),(([]:(List QJ)),(([]:(List a8)),(([]:(List Int)),(([]:(List QB)),(([]:(List QL)),(0:Int))))))) a1 (List.length a1:Int) N kf jv (0:Int))
noncomputable def alq (N:Nat) (a0:QC) (a1:Int) (kf:QC→Bool→Option aa):Option aa:=
 SY N a0 (fun jv=>
  ve N a0.1 a1 (fun fR=>
   bif (decide (fR<(0:Int))) then
    kf jv false
   else
    S94 N a0 (fun Fm=>
     bif Fm then
      kf jv false
     else
      bif (aM fR (List.length a0.1)) then
       bif (decide ((List.length (List.getD a0.1 (Int.toNat fR) ax).2.2.2.2.2:Int)>(0:Int))) then
        kf jv false
       else
        bif (decide ((0:Int)≤(0:Int))&&decide ((0:Int)≤fR)&&decide (fR≤(List.length a0.1:Int))) then
         bif (decide ((0:Int)≤(IntKind.wrap .i64 (fR+(1:Int))))&&decide ((IntKind.wrap .i64 (fR+(1:Int)))≤(List.length a0.1:Int))&&decide ((List.length a0.1:Int)≤(List.length a0.1:Int))) then
          FC N (List.drop (Int.toNat (0:Int)) (List.take (Int.toNat fR) a0.1)) (fun atc=>
           FC N (List.drop (Int.toNat (IntKind.wrap .i64 (fR+(1:Int)))) (List.take (Int.toNat (List.length a0.1:Int)) a0.1)) (fun CL=>
            bif (decide ((List.length atc+List.length CL)*6≤4398046511104)) then
             S93 N a0 ((atc++CL),jv.2) true (6:Int) a1 kf
            else none))
         else none
        else none
      else none)))
noncomputable def S60 (N:Nat) (a0:QC) (a1:QL) (kf:QC→Bool→Option aa):Option aa:=
 bif (a1.1==(1:Int)) then
  aln N a0 a1.2.1 a1.2.2.1 kf
 else
  bif (a1.1==(2:Int)) then
   alo N a0 a1.2.1 a1.2.2.1 kf
  else
   bif (a1.1==(3:Int)) then
    S21 N a0 kf
   else
    bif (a1.1==(4:Int)) then
     alp N a0 a1.2.2.2 a1.2.1 a1.2.2.1 kf
    else
     bif (a1.1==(5:Int)) then
      S27 N a0 kf
     else
      bif (a1.1==(6:Int)) then
       alq N a0 a1.2.1 kf
      else
       SY N a0 (fun SW=>
        kf SW false)
noncomputable def vj (N:Nat) (aj:(List QL)) (bc:QC):Nat→(QC→Option aa)→QC→Int→Option aa
 |0,_,_,_=>none
 |RC+1,bR,lz,xH=>
  bif (decide (xH<(List.length aj:Int))) then
   bif (aM xH (List.length aj)) then
    S60 N lz (List.getD aj (Int.toNat xH) mf) (fun xw aAJ=>
     (vj N aj bc RC bR) xw (IntKind.wrap .i64 (xH+(1:Int))))
   else none
  else
   bR lz
noncomputable def S63 (N:Nat) (a0:QC) (a1:(List QL)) (kf:QC→Option aa):Option aa:=
 SY N a0 (fun ph=>
  vj N a1 (([]:(List QT)),(([]:(List QJ)),(([]:(List a8)),(([]:(List Int)),(([]:(List QB)),(([]:(List QL)),(0:Int))))))) N kf ph (0:Int))
noncomputable def L61 (N:Nat) (a0:QL) (kf:QL→Option aa):Option aa:=
 kf (a0.1,(a0.2.1,(a0.2.2.1,a0.2.2.2)))
noncomputable def L62 (N:Nat) (a0:(List QL)) (a1:Int) (kf:Int→Option aa):Option aa:=
 bif (decide ((IntKind.wrap .i64 (a1 - (List.length a0:Int)))<(0:Int))) then
  kf (-1:Int)
 else
  kf (IntKind.wrap .i64 (a1 - (List.length a0:Int)))
noncomputable def vk (N:Nat) (ab:(List QL)):Nat→((List QL)→Option aa)→(List QL)→Int→Option aa
 |0,_,_,_=>none
 |eT+1,a6,ao,bc=>
  bif (decide (bc<(List.length ab:Int))) then
   bif (aM bc (List.length ab)) then
    L61 N (List.getD ab (Int.toNat bc) mf) (fun gm=>
     bif (aM bc (List.length ao)) then
      (vk N ab eT a6) (List.set ao (Int.toNat bc) gm) (IntKind.wrap .i64 (bc+(1:Int)))
     else none)
   else none
  else
   a6 ao
noncomputable def L64 (N:Nat) (a0:(List QL)) (kf:(List QL)→Option aa):Option aa:=
 bif (decide ((List.length a0:Int)=(List.length a0:Int))&&decide ((0:Int)≤(List.length a0:Int))&&decide ((List.length a0:Int)≤1099511627776)) then
  vk N a0 N kf (List.replicate (Int.toNat (List.length a0:Int)) ((0:Int),((0:Int),((0:Int),(0:Int))))) (0:Int)
 else none
noncomputable def afe (N:Nat) (a0:QL) (a1:QL) (kf:Bool→Option aa):Option aa:=
 bif (a0.1 != a1.1) then
  kf false
 else
  bif (a0.2.1 != a1.2.1) then
   kf false
  else
   bif (a0.2.2.1 != a1.2.2.1) then
    kf false
   else
    bif (a0.2.2.2 != a1.2.2.2) then
     kf false
    else
     kf true
noncomputable def vl (N:Nat) (ab:(List QL)) (aj:(List QL)):Nat→(Option aa)→(Bool→Option aa)→Int→Option aa
 |0,_,_,_=>none
 |eT+1,bS,bT,ak=>
  bif (decide (ak<(List.length ab:Int))) then
   bif (aM ak (List.length ab)) then
    bif (aM ak (List.length aj)) then
     afe N (List.getD ab (Int.toNat ak) mf) (List.getD aj (Int.toNat ak) mf) (fun gn=>
      bif (!gn) then
       bT false
      else
       (vl N ab aj eT bS bT) (IntKind.wrap .i64 (ak+(1:Int))))
    else none
   else none
  else
   bS
noncomputable def L65 (N:Nat) (a0:(List QL)) (a1:(List QL)) (kf:Bool→Option aa):Option aa:=
 bif ((List.length a0:Int) != (List.length a1:Int)) then
  kf false
 else
  vl N a0 a1 N (kf true) kf (0:Int)
noncomputable def AP :Nat→((List QL)→Int→Option aa)→(List QL)→Int→Int→Option aa
 |0,_,_,_,_=>none
 |eT+1,gl,ab,aj,ak=>
  bif (decide (ak<(List.length ab:Int))) then
   bif (aM ak (List.length ab)) then
    share (List.set ab (Int.toNat ak) (aj,(List.getD ab (Int.toNat ak) mf).2)) (fun jw=>
     bif (aM ak (List.length jw)) then
      share (List.set jw (Int.toNat ak) ((List.getD jw (Int.toNat ak) mf).1,((IntKind.wrap .i64 (aj+(1:Int))),(List.getD jw (Int.toNat ak) mf).2.2))) (fun iH=>
       bif (aM ak (List.length iH)) then
        share (List.set iH (Int.toNat ak) ((List.getD iH (Int.toNat ak) mf).1,((List.getD iH (Int.toNat ak) mf).2.1,((IntKind.wrap .i64 ((IntKind.wrap .i64 (aj+(1:Int)))+(1:Int))),(List.getD iH (Int.toNat ak) mf).2.2.2)))) (fun oh=>
         bif (aM ak (List.length oh)) then
          share (List.set oh (Int.toNat ak) ((List.getD oh (Int.toNat ak) mf).1,((List.getD oh (Int.toNat ak) mf).2.1,((List.getD oh (Int.toNat ak) mf).2.2.1,(IntKind.wrap .i64 ((IntKind.wrap .i64 ((IntKind.wrap .i64 (aj+(1:Int)))+(1:Int)))+(1:Int))))))) (fun FK=>
           (AP eT gl) FK (IntKind.wrap .i64 ((IntKind.wrap .i64 ((IntKind.wrap .i64 ((IntKind.wrap .i64 (aj+(1:Int)))+(1:Int)))+(1:Int)))+(1:Int))) (IntKind.wrap .i64 (ak+(1:Int))))
         else none)
       else none)
     else none)
   else none
  else
   gl ab aj
noncomputable def L66 (N:Nat) (a0:(List QL)) (a1:Int) (kf:Int→(List QL)→Option aa):Option aa:=
 AP N (fun FL N7=>
  kf N7 FL) a0 a1 (0:Int)
noncomputable def L10 (N:Nat) (a0:QC) (a1:(List QL)) (kf:Bool→Option aa):Option aa:=
 L20 N a0 (1048576:Int) (fun NN=>
  bif (decide (NN<(0:Int))) then
   kf true
  else
   L62 N a1 NN (fun ae=>
    bif (decide (ae<(0:Int))) then
     kf true
    else
     L22 N a0 (fun aAK=>
      L64 N a1 (fun NJ=>
       S63 N aAK NJ (fun Fs=>
        L22 N a0 (fun aff=>
         L64 N a1 (fun N6=>
          I43 N aff N6 (fun N9=>
           L24 N N9 Fs (fun aAL=>
            bif (!aAL) then
             kf false
            else
             L22 N a0 (fun avA=>
              L24 N aff avA (fun Js=>
               bif (!Js) then
                kf false
               else
                L64 N a1 (fun avB=>
                 L65 N N6 avB (fun SQ=>
                  bif (!SQ) then
                   kf false
                  else
                   L25 N aff (1:Int) (fun avC aBQ=>
                    L66 N N6 avC (fun avD aBR=>
                     bif (decide (avD<(0:Int))) then
                      kf false
                     else
                      L24 N N9 Fs (fun avE=>
                       bif (!avE) then
                        kf false
                       else
                        L25 N N9 (1:Int) (fun afg qE=>
                         L26 N (qE.1,(qE.2.1,(qE.2.2.1,(qE.2.2.2.1,(qE.2.2.2.2.1,(qE.2.2.2.2.2.1,N9.2.2.2.2.2.2)))))) (1:Int) (fun afh=>
                          bif (decide (afh<(0:Int))) then
                           kf false
                          else
                           bif (afh != afg) then
                            kf false
                           else
                            L22 N a0 (fun avF=>
                             L64 N a1 (fun avG=>
                              I43 N avF avG (fun avH=>
                               L24 N avH Fs (fun avI=>
                                bif (!avI) then
                                 kf false
                                else
                                 L26 N (qE.1,(qE.2.1,(qE.2.2.1,(qE.2.2.2.1,(qE.2.2.2.2.1,(qE.2.2.2.2.2.1,N9.2.2.2.2.2.2)))))) (1:Int) (fun afi=>
                                  bif (decide (afi<(0:Int))) then
                                   kf false
                                  else
                                   bif (afi != afg) then
                                    kf false
                                   else
                                    kf true)))))))))))))))))))))))
end Go.Pv.R
